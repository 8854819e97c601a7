import PyProof.Rows.All
import Wide.All
import OpenK.AllK
import Wide.FinOn
import HandS.ForExc
import KE.KLam
import HandS.Comp
import HandS.Lambda
import HandS.Nested
import HandS.Deep
import HandS.Wide
import HandS.Iter
import HandS.TryOnly
import HandS.ExcOwn
import HandS.WordsExc
import HandS.IsInst
import HandS.More
import HandS.Head0
import HandS.Head1
import HandS.Head2
import HandS.HeadHook1
import HandS.HeadHook2
import HandS.HeadHook3
import HandS.HeadHook4
import HandS.HeadWalk
import HandS.EndTab
import PySem.Challenge.RW_yourorder_k18_whole_maps
set_option Elab.async false
set_option linter.all false
set_option maxRecDepth 100000
set_option maxHeartbeats 4000000
namespace Ord
open PySem PySem.Spec PyProof.Rows L2
def top (i : Nat) : Stmt := PySem.Challenge.pw_yourorder_k18_whole_maps.main.body.getD i (.Pass ⟨0, 0, 0, 0⟩)
abbrev st__wall : Stmt := top 0
abbrev st_OrderError : Stmt := top 2
abbrev st_NoElement : Stmt := top 3
abbrev st_NoPlace : Stmt := top 4
abbrev st_Node : Stmt := top 6
abbrev st_Node___init__ : Stmt := inClass (top 6) 0
abbrev st_level_of : Stmt := top 7
abbrev st_many_of : Stmt := top 8
abbrev st_lean : Stmt := top 9
abbrev st_right_up : Stmt := top 10
abbrev st_left_up : Stmt := top 11
abbrev st_even : Stmt := top 12
abbrev st_with_key : Stmt := top 13
abbrev st_without_first : Stmt := top 14
abbrev st_joined : Stmt := top 15
abbrev st_without_key : Stmt := top 16
abbrev st_Map : Stmt := top 17
abbrev st_Map___init__ : Stmt := inClass (top 17) 0
abbrev st_Map_size : Stmt := inClass (top 17) 1
abbrev st_Map_put : Stmt := inClass (top 17) 2
abbrev st_Map_drop : Stmt := inClass (top 17) 3
abbrev st_Map_found : Stmt := inClass (top 17) 4
abbrev st_Map_get : Stmt := inClass (top 17) 5
abbrev st_Map_has : Stmt := inClass (top 17) 6
abbrev st_Map_rank : Stmt := inClass (top 17) 7
abbrev st_Map_at : Stmt := inClass (top 17) 8
abbrev st_Map_pairs : Stmt := inClass (top 17) 9
abbrev st_Map_copy : Stmt := inClass (top 17) 10
abbrev st__law_cell : Stmt := top 19
abbrev st__law_drawn : Stmt := top 20
abbrev st__law_answer : Stmt := top 21
abbrev st__law_ask : Stmt := top 22
abbrev st__law_log : Stmt := top 23
abbrev st__law_find : Stmt := top 24
abbrev st__law_got : Stmt := top 25
abbrev st__law_at : Stmt := top 26
abbrev st__law_deed : Stmt := top 27
abbrev st_law : Stmt := top 28
end Ord

/-! The closure layer: lambdas with parameters and captured cells, handed to defs and called there. -/
namespace Ord
open PySem PySem.Spec PyProof.Rows L2 LamX

/-! ### a thing that is known to the object -/
abbrev Fz (o : Obj) : HO := .frz o (.ext fun _ => True)
theorem fz_ok {P : Program} {w : World} {H : Hp} {h : Heap} {a : Addr} {o : Obj} (e : h.get? a = some o) : ObjOk P w H h a (Fz o) :=
  ⟨e, True.intro, ⟨o, e⟩, fun _ _ _ _ => True.intro⟩
theorem fz_at {P : Program} {w : World} {H : Hp} {h : Heap} {a : Addr} {o : Obj} (hok : HOk P w H h) (e : H a = some (Fz o)) : h.get? a = some o := (hok a _ e).1
theorem upd_none {H : Hp} {a b : Addr} {o : HO} (e : upd H a o b = Option.none) : H b = Option.none := by
  unfold upd at e
  split at e
  · cases e
  · exact e

/-! ### a lambda is made -/
section
variable {X : Cx} {pins : List (Addr × Obj)} {σ : L2.St} {H : Hp} {s : Shared}
theorem inv_fz {o : Obj} {t' : Nat} (I : Inv X pins σ H s) (hf : o.isFreed = false) : Inv X pins σ (upd H s.heap.objs.size (Fz o)) { s with heap := s.heap.push o, toks := t' } :=
  I.laid (a := s.heap.objs.size) (fun b u e => Heap.get?_push_of_some _ e) (Nat.le_refl _) (fz_ok (Heap.get?_push_size _ hf))
theorem lam_make3 {T : List (Addr × Str)} {c P : Addr} {params : Arguments} {body : Expr} {scope : Scope} {pos : Pos} {E : Value → Shared → Prop} {Q : Value → Shared → Prop} (I : Inv X pins σ H s) (TB : TabB X.base X.mg c P) (hcode : X.env.code = .ref c)
    (hm : (P, X.env.qual ++ "<lambda>") ∈ T) (hu : ∀ p ∈ T, p.1 = P → p.2 = X.env.qual ++ "<lambda>") (hT : Tabs T H) (hdef : defaultsOf params X.env = ([], [])) (hfree : ∀ y ∈ scope.names, y.2 = .free → ∃ c, X.env.cells.lookup y.1 = some c)
    (h : ∀ (f c' : Addr) (pm ctv : Value) (H1 : Hp) (s' : Shared), Inv X pins σ H1 s' → ExtN H H1 → (∀ b, H1 b = Option.none → H b = Option.none) → Tabs T H1 → H f = none →
      H1 f = some (Fz (PySem.W.kla_obj "<lambda>" (X.env.qual ++ "<lambda>") params body scope (cloFrom X.env.cells scope.names []) pm c' ctv)) → H1 c' = some (CodeO c' (X.env.qual ++ "<lambda>")) → Q (.ref f) s') :
    wpAny (model X.prog X.w) X.A (eval (.Lambda params body scope pos) X.env) Q E s := by
  obtain ⟨ps, hP, ht, ha⟩ := hT _ hm
  refine PySem.W.kla_eval hdef ?_
  have bP : s.heap.BuiltinsAt X.mg P := TB.bm.keeps I.bk
  have hP' : s.heap.get? P = some { cls := .none, data := .fields ps } := I.hok P _ hP
  cases hc : codeAmong pos ps.toList with
  | none =>
    refine PySem.W.kla_makeFunction (mg := X.mg) (c := c) (P := P) (ps := ps) (closure_ok hfree) I.ok.glob (I.mod.glob.keeps I.bk) hcode (TB.code.keeps I.bk) hP' ht hc TB.gP bP fun c' ctv h' tk hx hge hlt hrec htb => ?_
    obtain ⟨c2, oc, vs, t, e2, hoc, hd, hv⟩ := hrec
    cases e2
    have nC : H c' = none := I.hok.fresh hge
    have I1 := inv_table (t' := tk) (more := #[rawInt pos.line, rawInt pos.col, .ref c']) (h' := h') I hP (fun b o hb e => hx b o hb e) htb hge ⟨oc, vs, t, hoc, hd, hv⟩
    have hE : ExtN H (upd (upd H P (.tbl (ps ++ #[rawInt pos.line, rawInt pos.col, .ref c']))) c' (CodeO c' (X.env.qual ++ "<lambda>"))) := fun b o e n => by
      rw [upd_ne (ne_of_none e nC), upd_ne (fun z => n ps (Option.some.inj (e.symm.trans (by rw [z]; exact hP))))]
      exact e
    have eL : (ps ++ #[rawInt pos.line, rawInt pos.col, .ref c']).toList = ps.toList ++ [rawInt pos.line, rawInt pos.col, .ref c'] := by simp
    have T1 : Tabs T (upd (upd H P (.tbl (ps ++ #[rawInt pos.line, rawInt pos.col, .ref c']))) c' (CodeO c' (X.env.qual ++ "<lambda>"))) := fun p hp => by
      by_cases hb : p.1 = P
      · rw [hu p hp hb, hb]
        refine ⟨_, by rw [upd_ne (ne_of_none hP nC), upd_same], by rw [eL]; exact PySem.TriplesOk_snoc _ _ _ _ ht, fun p' cv hcv => ?_⟩
        rw [eL] at hcv
        rcases among_app _ ht hcv with z | z
        · obtain ⟨c0, e1, e2⟩ := ha p' cv z
          exact ⟨c0, e1, hE _ _ e2 codeO_ne⟩
        · exact ⟨c', z, upd_same⟩
      · obtain ⟨ps', a1, a2, a3⟩ := hT p hp
        refine ⟨ps', by rw [upd_ne (ne_of_none a1 nC), upd_ne hb]; exact a1, a2, fun p' cv hcv => ?_⟩
        obtain ⟨c0, e1, e2⟩ := a3 p' cv hcv
        exact ⟨c0, e1, hE _ _ e2 codeO_ne⟩
    have nF := I1.hok.fresh (Nat.le_refl _)
    have I2 := inv_fz (o := PySem.W.kla_obj "<lambda>" (X.env.qual ++ "<lambda>") params body scope (cloFrom X.env.cells scope.names []) ((X.mg "__name__").getD .none) c' ctv) (t' := tk) I1 rfl
    refine h h'.objs.size c' _ ctv _ _ I2 (fun b o e n => ?_) (fun b e => upd_none (upd_none (upd_none e))) (T1.ext fun b o e => ?_) (I.hok.fresh (Nat.le_trans hge (Nat.le_of_lt hlt))) upd_same ?_
    · have e1 := hE b o e n
      exact (upd_ne (ne_of_none e1 nF)).trans e1
    · exact (upd_ne (ne_of_none e nF)).trans e
    · exact (upd_ne (Nat.ne_of_lt hlt)).trans upd_same
  | some cv =>
    obtain ⟨c', e, hco⟩ := ha pos cv hc
    subst e
    refine PySem.W.kla_makeFunctionHit (mg := X.mg) (c := c) (P := P) (ps := ps) (closure_ok hfree) I.ok.glob (I.mod.glob.keeps I.bk) hcode (TB.code.keeps I.bk) hP' ht hc bP fun ctv h' tk hx hsz => ?_
    have I1 : Inv X pins σ H { s with heap := h', toks := tk } := I.kept hx
    have nF : H h'.objs.size = none := I1.hok.fresh (Nat.le_refl _)
    have I2 := inv_fz (o := PySem.W.kla_obj "<lambda>" (X.env.qual ++ "<lambda>") params body scope (cloFrom X.env.cells scope.names []) ((X.mg "__name__").getD .none) c' ctv) (t' := tk) I1 rfl
    refine h h'.objs.size c' _ ctv _ _ I2 (fun b o e n => ?_) (fun b e => upd_none e) (hT.ext fun b o e => ?_) nF upd_same ?_
    · exact (upd_ne (ne_of_none e nF)).trans e
    · exact (upd_ne (ne_of_none e nF)).trans e
    · exact (upd_ne (ne_of_none hco nF)).trans hco
end
/-- the reading of a lambda's making -/
def tLamV (T : List (Addr × Str)) (mk : Value → Addr → Value → Obj) (q : Str) : TE := fun _ H Q => Tabs T H ∧ ∀ (f c' : Addr) (pm ctv : Value) (H1 : Hp), ExtN H H1 → (∀ b, H1 b = Option.none → H b = Option.none) → Tabs T H1 → H f = none →
  H1 f = some (Fz (mk pm c' ctv)) → H1 c' = some (CodeO c' q) → Q (.ref f) H1
theorem pe_lam {X : Cx} {T : List (Addr × Str)} {c P : Addr} {params : Arguments} {body : Expr} {scope : Scope} {pos : Pos} {q : Str} (hq : X.env.qual ++ "<lambda>" = q) (TB : TabB X.base X.mg c P) (hcode : X.env.code = .ref c)
    (hm : (P, q) ∈ T) (hu : ∀ p ∈ T, p.1 = P → p.2 = q) (hdef : defaultsOf params X.env = ([], []))
    (hfree : ∀ y ∈ scope.names, y.2 = .free → X.env.scope.names.lookup y.1 = some .cell ∨ X.env.scope.names.lookup y.1 = some .free) :
    PE X (.Lambda params body scope pos) (tLamV T (fun pm c' ctv => PySem.W.kla_obj "<lambda>" q params body scope (cloFrom X.env.cells scope.names []) pm c' ctv) q) := by
  subst hq
  refine ⟨fun pins s σ H Q I h => ?_⟩
  obtain ⟨hT, h⟩ := h
  exact lam_make3 I TB hcode hm hu hT hdef (fun y hy e => (hfree y hy e).elim (fun z => I.ok.has _ (.inl z)) fun z => I.ok.has _ (.inr z)) fun f c' pm ctv H1 s' I1 eN nn T1 f0 f1 c1 =>
    ⟨.ref f, H1, I1, rfl, h f c' pm ctv H1 eN nn T1 f0 f1 c1⟩

/-! ### a function value and its promise -/
def IsFz (H : Hp) (f : Addr) : Prop := ∃ (oc : Value) (od : Option Addr) (fd : FuncData) (sl : Array (Option Value)), H f = some (Fz ⟨oc, od, .func fd, sl⟩)
theorem fnAt_fz {P : Program} {w : World} {H : Hp} {h : Heap} {f : Addr} (hok : HOk P w H h) (e : IsFz H f) : PySem.W.FnAt f h := by
  obtain ⟨oc, od, fd, sl, e⟩ := e
  exact ⟨oc, od, fd, sl, fz_at hok e⟩
/-- calling the function at f with positional arguments keeps sp -/
structure FnV (P : Program) (w : World) (K : PySem.W.Frag) (mg : Str → Option Value) (base : Heap) (k : Nat) (f : Addr) (sp : Sp) : Prop where
  run : ∀ (A : Around) (outer : List Env) (s : Shared) (H : Hp) (us : List Value) (vs : List V) (Q : VK), Room k A → Env0 P w K mg base A outer s H → Vals vs us → sp vs H Q E0 →
    codeAny (model P w) A (.call (.ref f) ⟨us, []⟩) (CR CX0 outer P w H s Q E0) s
theorem FnV.mono {P : Program} {w : World} {K : PySem.W.Frag} {mg : Str → Option Value} {base : Heap} {j k : Nat} {f : Addr} {sp : Sp} (F : FnV P w K mg base j f sp) (h : j ≤ k) : FnV P w K mg base k f sp :=
  ⟨fun A outer s H us vs Q hr => F.run A outer s H us vs Q (hr.mono h)⟩
section
variable {X : Cx} {k : Nat} {f : Addr} {sp : Sp} {e : Expr} {es : List Expr} {t : TA} {x : Str} {p pos : Pos} {i : Nat}
theorem run_v {pins : List (Addr × Obj)} {σ : L2.St} {H : Hp} {s : Shared} {Q : VK} {us : List Value} {vs : List V} (F : FnV X.prog X.w X.K X.mg X.base k f sp) (hr : Room k X.A) (I : Inv X pins σ H s) (r : Vals vs us) (h : sp vs H Q E0) :
    wpAny (model X.prog X.w) X.A (call (.ref f) us) (EP X pins σ Q) X.xe s := by
  refine wpAny_call (codeAny_mono (F.run X.A X.stack s H us vs Q hr I.env0 r h) fun r s' hq => ?_)
  cases r with
  | error e => exact False.elim hq
  | ok fl =>
    cases fl with
    | ret u => exact I.after hq
    | next => exact False.elim hq
    | brk => exact False.elim hq
    | cont => exact False.elim hq
/-- x(e, ..), x a name of the def that holds a function -/
def tCallV (i : Nat) (f : Addr) (sp : Sp) (t : TA) : TE := fun σ H Q => σ[i]? = some (some (.ref f)) ∧ IsFz H f ∧ t σ H fun vs H1 => IsFz H1 f ∧ sp vs H1 Q E0
theorem pe_callV (F : FnV X.prog X.w X.K X.mg X.base k f sp) (hr : Room k X.A) (ha : PA X (e :: es) t) (hN : X.N[i]? = some x := by rfl) (hv : Vis X.env.scope x := by first | exact Or.inl rfl | exact Or.inr (Or.inl rfl) | exact Or.inr (Or.inr rfl))
    (hd : (x == ("__debug__" : Str)) = false := by decide) (hcd : (x == ("__classdict__" : Str)) = false := by decide)
    (he : starEach (e :: es) X.env = (false, eval e X.env) :: starEach es X.env := by rfl) (hpl : (backTo pos (starEach es X.env)).any (·.1) = false := by rfl) :
    PE X (.Call (.Name x p) (e :: es) [] pos) (tCallV i f sp t) := by
  refine ⟨fun pins s σ H Q I h => ?_⟩
  obtain ⟨hs, hf, ht⟩ := h
  refine wpAny_Call_Name_kw (thn ((pe_var (pos := p) hN hv hd hcd).run pins s σ H (fun v H1 => v = .ref f ∧ H1 = H) I ⟨.ref f, hs, rfl, rfl⟩) fun u s1 ⟨v, H1, I1, r1, q1⟩ => ?_)
  obtain ⟨ev, eH⟩ := q1
  subst ev
  rw [eH] at I1
  obtain rfl : u = Value.ref f := r1
  exact PySem.W.callWith_F (first := []) (fnAt_fz I1.hok hf) (thn (ha.run pos pins s1 σ H _ I1 ht) fun us s2 ⟨vs, H2, I2, r, h1, q⟩ => ⟨fnAt_fz I2.hok h1, run_v F hr I2 r q⟩) he hpl
end
/-! ### o.f(e, ..), f a field that holds a function -/
theorem method_field {prog : Program} {w : World} {A : Around} {s : Shared} {K : PySem.W.Frag} {x C : Addr} {ox : Obj} {od : Option Obj} {name : Str} {pl : Sem Bool} {E : Value → Shared → Prop} {Q : Value × List Value → Shared → Prop}
    (X : K.In s.heap) (I : PySem.W.InstAt s.heap x ox C od) (hga : PySem.W.findIn K (.ref C) "__getattribute__" = some (some (.builtin "object.__getattribute__"))) (hk : PySem.W.findIn K (.ref C) "__getattr__" = some none)
    (hf : PySem.W.findIn K (.ref C) name = some none) (h : wpAny (model prog w) A (getAttr (.ref x) name) (fun v s' => Q (v, []) s') E s) :
    wpAny (model prog w) A (getMethod (.ref x) name pl) Q E s := by
  have hcan := PySem.F.canon_object_ga
  unfold getMethod specialOf
  refine wpAny_bind (wpAny_bind (I.type.here ((PySem.W.looks_findIn X hga).here ?_)))
  dsimp only
  rw [hcan, if_neg (by decide)]
  refine wpAny_bind (wpAny_bind (I.type.here ((PySem.W.looks_findIn X hk).here ?_)))
  refine wpAny_bind (wpAny_bind (I.type.here ((PySem.W.looks_findIn X hf).here ?_)))
  exact wpAny_bind (wpAny_mono h (fun v s' q => wpAny_pure q) fun _ _ z => z)
theorem getfn_ok {X : Cx} {pins : List (Addr × Obj)} {σ : L2.St} {H : Hp} {s : Shared} {a C dx f : Addr} {fs : List (Str × V)} {m : Str} {pl : Sem Bool} {E : Value → Shared → Prop} {Q : Value × List Value → Shared → Prop} (I : Inv X pins σ H s) (e : H a = some (.ins C dx fs)) (c : Cls X.K C) (n : NoAttr X.K C m)
    (l : fs.lookup m = some (.ref f)) (h : ∀ s', Inv X pins σ H s' → Q (.ref f, []) s') : wpAny (model X.prog X.w) X.A (getMethod (.ref a) m pl) Q E s := by
  obtain ⟨mA, O, r, _, _, _⟩ := ins_get I.hok e
  obtain ⟨od, J, hl⟩ := O.look
  refine method_field I.kIn J (PySem.W.plainGet_of (c.get m)).1 (PySem.W.plainGet_of (c.get m)).2 n ?_
  refine getattr_ok I e c n l fun u s' I' ru => ?_
  obtain rfl : u = Value.ref f := ru
  exact h s' I'
section
variable {X : Cx} {k : Nat} {f C : Addr} {sp : Sp} {o e : Expr} {es : List Expr} {ta : TE} {t : TA} {m : Str} {apos pos : Pos}
def tCallF (K : PySem.W.Frag) (m : Str) (f : Addr) (sp : Sp) (ta : TE) (t : TA) : TE := fun σ H Q => ta σ H fun x H1 => ∃ a C dx fs, x = .ref a ∧ H1 a = some (.ins C dx fs) ∧ Cls K C ∧ NoAttr K C m ∧ fs.lookup m = some (.ref f) ∧ IsFz H1 f ∧
  t σ H1 fun vs H2 => IsFz H2 f ∧ sp vs H2 Q E0
theorem pe_callF {pl : Sem Bool} (he : PE X o ta) (F : FnV X.prog X.w X.K X.mg X.base k f sp) (hr : Room k X.A) (ha : PA X (e :: es) t)
    (hst : starEach (e :: es) X.env = (false, eval e X.env) :: starEach es X.env := by rfl) (hpl : (backTo pos (starEach es X.env)).any (·.1) = false := by rfl)
    (ht : eval (.Call (.Attribute o m apos) (e :: es) [] pos) X.env = (do
      let ov ← eval o X.env
      standAt apos.atName
      let (f, first) ← holding [ov] (getMethod ov m pl)
      callWith pos f first (backTo pos (starEach (e :: es) X.env)) (backToKw pos (keywordEach [] X.env))) := by rfl) :
    PE X (.Call (.Attribute o m apos) (e :: es) [] pos) (tCallF X.K m f sp ta t) := by
  refine ⟨fun pins s σ H Q I h => ?_⟩
  refine PySem.W.methodCall_KW (pl := pl) (thn (he.run pins s σ H _ I h) fun u s1 ⟨x, H1, I1, rx, a, C, dx, fs, ex, ea, c, n, l, hf, q⟩ => ?_) ht
  subst ex
  obtain rfl : u = Value.ref a := rx
  refine getfn_ok I1 ea c n l fun s1' I1' => ?_
  exact PySem.W.callWith_F (first := []) (fnAt_fz I1'.hok hf) (thn (ha.run pos pins s1' σ H1 _ I1' q) fun us s2 ⟨vs, H2, I2, r, h1, q2⟩ => ⟨fnAt_fz I2.hok h1, run_v F hr I2 r q2⟩) hst hpl
end

/-! ### the maker's cells, lent for a call -/
def strip (cs : List (Str × Addr)) (H : Hp) : Hp := fun b => if b ∈ cs.map (·.2) then none else H b
theorem strip_out {cs : List (Str × Addr)} {H : Hp} {b : Addr} (h : b ∉ cs.map (·.2)) : strip cs H b = H b := if_neg h
theorem strip_in {cs : List (Str × Addr)} {H : Hp} {b : Addr} (h : b ∈ cs.map (·.2)) : strip cs H b = none := if_pos h
theorem strip_some {cs : List (Str × Addr)} {H : Hp} {b : Addr} {o : HO} (h : strip cs H b = some o) : b ∉ cs.map (·.2) ∧ H b = some o := by
  by_cases hb : b ∈ cs.map (·.2)
  · rw [strip_in hb] at h
    cases h
  · rw [strip_out hb] at h
    exact ⟨hb, h⟩
/-- the cell at c holds v -/
def CellV (H : Hp) (c : Addr) (v : V) : Prop := ∃ (o : Obj) (u : Value), H c = some (Fz o) ∧ o.data = .cell (some u) ∧ RelV v u
/-- H2 is H with the cells cs lent; what the slots of captured names hold stands in them -/
structure Lent (X : Cx) (σ : L2.St) (H H2 : Hp) : Prop where
  out : ∀ b, b ∉ X.env.cells.map (·.2) → H2 b = H b
  none_ : ∀ b, b ∈ X.env.cells.map (·.2) → H b = none
  fz : ∀ b, b ∈ X.env.cells.map (·.2) → ∃ (o : Obj) (v : Option Value), H2 b = some (Fz o) ∧ o.data = .cell v
  inj : ∀ x y c, X.env.cells.lookup x = some c → X.env.cells.lookup y = some c → x = y
  has : ∀ x, (X.env.scope.names.lookup x = some .cell ∨ X.env.scope.names.lookup x = some .free) → ∃ c, X.env.cells.lookup x = some c
  val : ∀ (i : Nat) (x : Str) (v : V), X.N[i]? = some x → σ[i]? = some (some v) → (X.env.scope.names.lookup x = some .cell ∨ X.env.scope.names.lookup x = some .free) → ∃ c, X.env.cells.lookup x = some c ∧ CellV H2 c v
theorem Lent.keep {X : Cx} {σ : L2.St} {H H2 : Hp} (L : Lent X σ H H2) {b : Addr} {o : HO} (e : H b = some o) : H2 b = some o := by
  have hb : b ∉ X.env.cells.map (·.2) := fun z => by
    rw [L.none_ b z] at e
    cases e
  rw [L.out b hb]
  exact e
theorem lookup_mem2 {cs : List (Str × Addr)} {x : Str} {c : Addr} (e : cs.lookup x = some c) : c ∈ cs.map (·.2) := List.mem_map.mpr ⟨_, PySem.mem_of_lookup e, rfl⟩
/-- no name stands twice among the cells -/
def UniqC (cs : List (Str × Addr)) : Prop := ∀ b, b ∈ cs.map (·.2) → ∃ x, cs.lookup x = some b
section
variable {X : Cx} {pins : List (Addr × Obj)} {σ : L2.St} {H : Hp} {s s' : Shared}
def lendH (X : Cx) (s : Shared) (H : Hp) : Hp := fun b => if b ∈ X.env.cells.map (·.2) then (s.heap.get? b).map Fz else H b
theorem cell_at (I : Inv X pins σ H s) (un : UniqC X.env.cells) {b : Addr} (hb : b ∈ X.env.cells.map (·.2)) : H b = none ∧ ∃ (o : Obj) (v : Option Value), s.heap.get? b = some o ∧ o.data = .cell v := by
  obtain ⟨x, hx⟩ := un b hb
  obtain ⟨v, o, ho, hd⟩ := I.cell x b hx
  exact ⟨I.freeC x b hx, o, v, ho, hd⟩
theorem lendH_in (I : Inv X pins σ H s) {b : Addr} {o : Obj} (hb : b ∈ X.env.cells.map (·.2)) (ho : s.heap.get? b = some o) : lendH X s H b = some (Fz o) := by
  unfold lendH
  rw [if_pos hb, ho]
  rfl
theorem lendH_out {b : Addr} (hb : b ∉ X.env.cells.map (·.2)) : lendH X s H b = H b := if_neg hb
theorem lendH_ok (I : Inv X pins σ H s) (un : UniqC X.env.cells) : HOk X.prog X.w (lendH X s H) s.heap := by
  intro b u e
  by_cases hb : b ∈ X.env.cells.map (·.2)
  · obtain ⟨_, o, v, ho, _⟩ := cell_at I un hb
    rw [lendH_in I hb ho] at e
    cases e
    exact fz_ok ho
  · rw [lendH_out hb] at e
    have kp : ∀ c y, H c = some y → lendH X s H c = some y := fun c y z => by
      have hc : c ∉ X.env.cells.map (·.2) := fun q => by
        rw [(cell_at I un q).1] at z
        cases z
      rw [lendH_out hc]
      exact z
    exact (I.hok b u e).stay (fun _ _ _ q => q) (fun c q => kp c _ q) fun c xs q => kp c _ q
theorem lendH_lent (I : Inv X pins σ H s) (un : UniqC X.env.cells) : Lent X σ H (lendH X s H) := by
  refine ⟨fun b hb => lendH_out hb, fun b hb => (cell_at I un hb).1, fun b hb => ?_, I.ok.inj, fun x hk => I.ok.has x hk, fun i x v hN hs hk => ?_⟩
  · obtain ⟨_, o, v, ho, hd⟩ := cell_at I un hb
    exact ⟨o, v, lendH_in I hb ho, hd⟩
  · obtain ⟨m, hn, hl⟩ := I.loc
    obtain ⟨u, r, l⟩ := hl i x v hN hs (hk.elim (fun z => .inr (.inl z)) fun z => .inr (.inr z))
    rcases l with ⟨z, _⟩ | ⟨_, c, hc, o, ho, hd⟩
    · have z' : X.env.scope.names.lookup x = some .local := z
      rcases hk with k | k <;> rw [k] at z' <;> cases z'
    · exact ⟨c, hc, o, u, lendH_in I (lookup_mem2 hc) ho, hd, r⟩
theorem lend_env0 (I : Inv X pins σ H s) (un : UniqC X.env.cells) (hfn : ∀ x, X.fn x = true) : Env0 X.prog X.w X.K X.mg X.base X.A X.stack s (lendH X s H) := by
  have e0 := I.env0
  have ncell : ∀ b o, X.base.get? b = some o → b ∉ X.env.cells.map (·.2) := fun b o e hb => by
    obtain ⟨x, hx⟩ := un b hb
    exact absurd (Nat.lt_of_lt_of_le (Heap.lt_size (I.ok.bs b o e).1) (I.ok.cab x b (hfn x) hx)) (Nat.lt_irrefl _)
  refine ⟨e0.frames, e0.mod, fun b o e => ⟨(e0.bs b o e).1, by rw [lendH_out (ncell b o e)]; exact (e0.bs b o e).2⟩, e0.bsz, e0.funs, fun b hb => ?_, lendH_ok I un, e0.bare⟩
  have nb : b ∉ X.env.cells.map (·.2) := fun z => by
    rcases List.mem_cons.mp (I.stkSub b hb) with e | e
    · obtain ⟨x, hx⟩ := un b z
      exact I.cne x b hx e
    · obtain ⟨x, hx⟩ := un b z
      obtain ⟨_, o, ho, _⟩ := I.ok.funs.mem e
      exact absurd (Nat.lt_of_lt_of_le (Heap.lt_size ho) (I.ok.cab x b (hfn x) hx)) (Nat.lt_irrefl _)
  rw [lendH_out nb]
  exact e0.frf b hb
/-- behind a call with the cells lent -/
theorem lent_after {Q : VK} {u : Value} (I : Inv X pins σ H s) (un : UniqC X.env.cells) (h : CE X.stack X.prog X.w (lendH X s H) s (fun v H3 => Q v (strip X.env.cells H3)) u s') : EP X pins σ Q u s' := by
  obtain ⟨v, H3, os, bare, U, hok, r, q⟩ := h
  have cellIn : ∀ b, b ∈ X.env.cells.map (·.2) → ∃ o, s.heap.get? b = some o ∧ H3 b = some (Fz o) ∧ s'.heap.get? b = some o := fun b hb => by
    obtain ⟨_, o, v, ho, _⟩ := cell_at I un hb
    have e3 := U.frzs b o _ (lendH_in I hb ho)
    exact ⟨o, ho, e3, fz_at hok e3⟩
  have nIn : ∀ b y, H b = some y → b ∉ X.env.cells.map (·.2) := fun b y z q => by
    rw [(cell_at I un q).1] at z
    cases z
  have nFr : ∀ b, b ∈ X.env.cells.map (·.2) → ∀ y, strip X.env.cells H3 b ≠ some y := fun b hb y z => (strip_some z).1 hb
  have U4 : Un (frs X.stack) [] H (strip X.env.cells H3) s.heap s'.heap := by
    refine ⟨fun b o e n hf hx => ?_, fun b o e n hf hx => ?_, fun b o e n hx => ?_, U.there, fun b xs e => ?_, fun b o y e => ?_, fun b ps e => ?_⟩
    · by_cases hb : b ∈ X.env.cells.map (·.2)
      · obtain ⟨o', e1, _, e3⟩ := cellIn b hb
        rw [e] at e1
        cases e1
        exact e3
      · exact U.keep b o e (by rw [lendH_out hb]; exact n) hf hx
    · by_cases hb : b ∈ X.env.cells.map (·.2)
      · obtain ⟨o', e1, _, e3⟩ := cellIn b hb
        rw [e] at e1
        cases e1
        exact ⟨o.slots, e3⟩
      · exact U.slot b o e (by rw [lendH_out hb]; exact n) hf hx
    · by_cases hb : b ∈ X.env.cells.map (·.2)
      · exact strip_in hb
      · rw [strip_out hb]
        exact U.free b o e (by rw [lendH_out hb]; exact n) hx
    · have hb := nIn b _ e
      rw [strip_out hb]
      exact U.tups b xs (by rw [lendH_out hb]; exact e)
    · have hb := nIn b _ e
      rw [strip_out hb]
      exact U.frzs b o y (by rw [lendH_out hb]; exact e)
    · have hb := nIn b _ e
      rw [strip_out hb]
      exact U.tbls b ps (by rw [lendH_out hb]; exact e)
  have hok4 : HOk X.prog X.w (strip X.env.cells H3) s'.heap := by
    intro b y e
    obtain ⟨hb, e⟩ := strip_some e
    have kp : ∀ c z, H3 c = some z → (∀ o, z ≠ Fz o) → strip X.env.cells H3 c = some z := fun c z hz nz => by
      have hc : c ∉ X.env.cells.map (·.2) := fun q => by
        obtain ⟨o, _, e3, _⟩ := cellIn c q
        rw [e3] at hz
        exact nz o (Option.some.inj hz).symm
      rw [strip_out hc]
      exact hz
    exact (hok b y e).stay (fun _ _ _ q => q) (fun c q => kp c _ q fun o z => by cases z) fun c xs q => kp c _ q fun o z => by cases z
  obtain ⟨hh, g, d, t, os'⟩ := s'
  obtain rfl : os' = s.os := os
  exact ⟨v, strip X.env.cells H3, I.call (h' := hh) (g' := g) (d' := d) (t' := t) (ch := []) U4 hok4 bare (fun b z => absurd z (by simp)), r, q⟩
end
/-! ### calls with the cells lent -/
def lentQ (X : Cx) (Q : VK) : VK := fun v H3 => Q v (strip X.env.cells H3)
def tCallLent (X : Cx) (sp : Sp) (t : TA) : TE := fun σ H Q => t σ H fun vs H1 => ∀ H2, Lent X σ H1 H2 → sp vs H2 (lentQ X Q) E0
def tMethLent (X : Cx) (C : Addr) (m : Str) (sp : Sp) (ta : TE) (t : TA) : TE := fun σ H Q => ta σ H fun x H1 => ∃ a dx fs, x = .ref a ∧ H1 a = some (.ins C dx fs) ∧ fs.lookup m = none ∧
  t σ H1 fun vs H2 => ∀ H3, Lent X σ H2 H3 → sp (x :: vs) H3 (lentQ X Q) E0
section
variable {X : Cx} {k : Nat} {f C : Addr} {fd : FuncData} {ps : List Str} {sp : Sp} {x m : Str} {p pos apos : Pos} {e o : Expr} {es : List Expr} {ta : TE} {t : TA}
theorem run_lent {CX : CXT} {pins : List (Addr × Obj)} {σ : L2.St} {H : Hp} {s : Shared} {Q : VK} {us : List Value} {vs : List V} (F : FnOk X.prog X.w X.K X.mg X.base CX k f fd ps sp) (hr : Room k X.A) (hb : Binds X.K fd ps []) (un : UniqC X.env.cells) (hfn : ∀ x, X.fn x = true)
    (hCX : ∀ H s e s', CX X.stack H s E0 e s' → False) (I : Inv X pins σ H s) (r : Vals vs us) (h : ∀ H2, Lent X σ H H2 → sp vs H2 (lentQ X Q) E0) : wpAny (model X.prog X.w) X.A (call (.ref f) us) (EP X pins σ Q) X.xe s := by
  have hq := h (lendH X s H) (lendH_lent I un)
  have hl : us.length = ps.length := by rw [← r.length]; exact F.len _ _ _ _ hq
  have hbt := hb s us I.kIn (by rw [List.append_nil]; exact hl)
  rw [List.append_nil] at hbt
  refine wpAny_call (codeAny_mono (F.run X.A X.stack s (lendH X s H) ⟨us, []⟩ us vs _ E0 hr (lend_env0 I un hfn) hbt r hq) fun r s' hq => ?_)
  cases r with
  | error e => exact (hCX _ _ _ _ hq).elim
  | ok fl =>
    cases fl with
    | ret u => exact lent_after I un hq
    | next => exact False.elim hq
    | brk => exact False.elim hq
    | cont => exact False.elim hq
theorem pe_callLent {CX : CXT} (F : FnOk X.prog X.w X.K X.mg X.base CX k f fd ps sp) (hr : Room k X.A) (hg : Gl X x) (hm : X.mg x = some (.ref f)) (hk : PySem.W.keepIn X.K (.ref f) = true) (hb : Binds X.K fd ps []) (un : UniqC X.env.cells) (hfn : ∀ x, X.fn x = true)
    (hCX : ∀ H s e s', CX X.stack H s E0 e s' → False) (ha : PA X (e :: es) t) (hdb : (x == ("__debug__" : Str)) = false := by decide) (he : starEach (e :: es) X.env = (false, eval e X.env) :: starEach es X.env := by rfl) (hpl : (backTo pos (starEach es X.env)).any (·.1) = false := by rfl) :
    PE X (.Call (.Name x p) (e :: es) [] pos) (tCallLent X sp t) := by
  refine ⟨fun pins s σ H Q I h => ?_⟩
  refine wpAny_Call_Name_kw (ld_glob I hg hm ?_ hdb)
  refine PySem.W.callWith_K (h₀ := X.base) I.ok.mod.kin hk (thn (ha.run pos pins s σ H _ I h) fun us s1 ⟨vs, H1, I1, r, q⟩ => ⟨I1.kIn, ?_⟩) he hpl
  exact run_lent F hr hb un hfn hCX I1 r q
theorem pe_methLent {CX : CXT} {pl : Sem Bool} (he : PE X o ta) (c : Cls X.K C) (hm : Meth X.K C m f) (F : FnOk X.prog X.w X.K X.mg X.base CX k f fd ps sp) (hr : Room k X.A) (hb : Binds X.K fd ps []) (un : UniqC X.env.cells) (hfn : ∀ x, X.fn x = true)
    (hCX : ∀ H s e s', CX X.stack H s E0 e s' → False) (ha : PA X (e :: es) t)
    (hst : starEach (e :: es) X.env = (false, eval e X.env) :: starEach es X.env := by rfl) (hpl : (backTo pos (starEach es X.env)).any (·.1) = false := by rfl)
    (ht : eval (.Call (.Attribute o m apos) (e :: es) [] pos) X.env = (do
      let ov ← eval o X.env
      standAt apos.atName
      let (f, first) ← holding [ov] (getMethod ov m pl)
      callWith pos f first (backTo pos (starEach (e :: es) X.env)) (backToKw pos (keywordEach [] X.env))) := by rfl) :
    PE X (.Call (.Attribute o m apos) (e :: es) [] pos) (tMethLent X C m sp ta t) := by
  refine ⟨fun pins s σ H Q I h => ?_⟩
  refine PySem.W.methodCall_KW (pl := pl) (thn (he.run pins s σ H _ I h) fun u s1 ⟨x, H1, I1, rx, a, dx, fs, ex, ea, l, q⟩ => ?_) ht
  subst ex
  obtain rfl : u = Value.ref a := rx
  refine getmeth_ok I1 ea c hm l ?_
  refine PySem.W.callWith_K (first := [.ref a]) (h₀ := X.base) I.ok.mod.kin hm.kp (thn (ha.run pos pins s1 σ H1 _ I1 q) fun us s2 ⟨vs, H2, I2, r, q2⟩ => ⟨I2.kIn, ?_⟩) hst hpl
  exact run_lent (us := .ref a :: us) (vs := .ref a :: vs) F hr hb un hfn hCX I2 (.cons rfl r) q2
end

/-! ### a lambda's body -/
/-- the captured cells: lent, and what they hold -/
structure ClosAt (cl : List (Str × Addr)) (fr : List Str) (ws : List (Option V)) (H : Hp) : Prop where
  len : ws.length = fr.length
  all : ∀ b, b ∈ cl.map (·.2) → ∃ (o : Obj) (v : Option Value), H b = some (Fz o) ∧ o.data = .cell v
  inj : ∀ x y c, cl.lookup x = some c → cl.lookup y = some c → x = y
  has : ∀ (i : Nat) (y : Str), fr[i]? = some y → ∃ c, cl.lookup y = some c ∧ ∀ v, ws[i]? = some (some v) → CellV H c v
/-- H' with the cells of H put back -/
def relend (cs : List (Str × Addr)) (H H' : Hp) : Hp := fun b => if b ∈ cs.map (·.2) then H b else H' b
abbrev lamNF (q : Str) (params : Arguments) (scope : Scope) (cl : List (Str × Addr)) (c' : Addr) : NdefX.NF := ⟨"<lambda>", q, params, [], scope, cl, c'⟩
section
variable {P : Program} {w : World} {K : PySem.W.Frag} {mg : Str → Option Value} {base : Heap} {N ps fr : List Str} {k : Nat}
theorem fnv_lam {params : Arguments} {body : Expr} {scope : Scope} {cl : List (Str × Addr)} {pm ctv : Value} {c' f : Addr} {q : Str} {sp : Sp} {ws : List (Option V)} (S : NdefX.NScope N ps fr scope)
    (hb : ∀ us : List Value, us.length = ps.length → bindArgs (PySem.W.kla_fn "<lambda>" q params body scope cl pm (.ref c') ctv) ⟨us, []⟩ = pure (ps.zip us))
    (hsp : ∀ vs H Q, sp vs H Q E0 → vs.length = ps.length ∧ H f = some (Fz (PySem.W.kla_obj "<lambda>" q params body scope cl pm c' ctv)) ∧ H c' = some (CodeO c' q) ∧ ClosAt cl fr ws H)
    (hbody : ∀ (A : Around) (outer : List Env) (s : Shared) (H : Hp) (vs : List V) (Q : VK), Room k (A.deeper (NdefX.envF (lamNF q params scope cl c') f s.heap.objs.size)) → sp vs H Q E0 →
      ∃ t, PE (NdefX.ncx CX0 P w K mg base N (lamNF q params scope cl c') f A outer s (strip cl H) E0).nox body t ∧ t (NdefX.startF N vs ws) (strip cl H) fun v H' => (∀ b, b ∈ cl.map (·.2) → H' b = Option.none) → Q v (relend cl H H')) :
    FnV P w K mg base (k + 1) f sp := by
  refine ⟨fun A outer s H us vs Q hr e0 r h => ?_⟩
  obtain ⟨hl, hf, hc, C⟩ := hsp vs H Q h
  have lim : s.heap.NoLimit := e0.mod.nolimit.keeps fun b o e => (e0.bs b o e).1
  have of1 := fz_at e0.hok hf
  obtain ⟨⟨oc, ys, tq, hoc, hdc, hvc⟩, _, _⟩ := e0.hok c' _ hc
  refine PySem.W.kla_callFunE hr.depth of1 rfl S.co S.gen rfl ⟨c', oc, ys, tq, rfl, hoc, hdc, hvc⟩ ?_
  rw [hb us (by rw [← r.length]; exact hl)]
  refine wpAny_pure (wpAny_newFunctionEnv S.nocell (fun ⟨n, _⟩ hy => S.par n (List.of_mem_zip hy).1) (fun h₁ hns hsb => ⟨lim.fresh _ hsb, ?_⟩) S.kind)
  show codeAny _ _ (.expr body (NdefX.envF (lamNF q params scope cl c') f s.heap.objs.size)) _ _
  have kp : ∀ b o, s.heap.get? b = some o → h₁.get? b = some o := fun b o e => hsb.extBut b o (Nat.ne_of_lt (Heap.lt_size e)) (Heap.get?_push_of_some _ e)
  obtain ⟨t, ht, hq⟩ := hbody A outer s H vs Q (hr.deeper _) h
  -- the state without the captured cells
  have cellAt : ∀ b, b ∈ cl.map (·.2) → ∃ (o : Obj) (v : Option Value), H b = some (Fz o) ∧ s.heap.get? b = some o ∧ o.data = .cell v := fun b hb => by
    obtain ⟨o, v, e, hd⟩ := C.all b hb
    exact ⟨o, v, e, fz_at e0.hok e, hd⟩
  have kS : ∀ c z, H c = some z → (∀ o, z ≠ Fz o) → strip cl H c = some z := fun c z hz nz => by
    have hc : c ∉ cl.map (·.2) := fun q => by
      obtain ⟨o, _, e3, _⟩ := C.all c q
      rw [e3] at hz
      exact nz o (Option.some.inj hz).symm
    rw [strip_out hc]
    exact hz
  have hokS : HOk P w (strip cl H) s.heap := fun b y e => by
    obtain ⟨_, e⟩ := strip_some e
    exact (e0.hok b y e).stay (fun _ _ _ q => q) (fun c q => kS c _ q fun o z => by cases z) fun c xs q => kS c _ q fun o z => by cases z
  have nS : ∀ b, H b = none → strip cl H b = none := fun b e => by
    by_cases hb : b ∈ cl.map (·.2)
    · exact strip_in hb
    · rw [strip_out hb]
      exact e
  have e1 : Env0 P w K mg base A outer s (strip cl H) := ⟨e0.frames, e0.mod, fun b o e => ⟨(e0.bs b o e).1, nS b (e0.bs b o e).2⟩, e0.bsz, e0.funs, fun b hb => nS b (e0.frf b hb), hokS, e0.bare⟩
  have CA : NdefX.CellsAt cl fr ws s.heap (strip cl H) := by
    refine ⟨C.len, fun y c e => ?_, C.inj, fun i y e => ?_⟩
    · obtain ⟨o, v, _, e2, e3⟩ := cellAt c (lookup_mem2 e)
      exact ⟨strip_in (lookup_mem2 e), v, o, e2, e3⟩
    · obtain ⟨c, hc, hv⟩ := C.has i y e
      refine ⟨c, hc, fun v ev => ?_⟩
      obtain ⟨o, u, e2, e3, ru⟩ := hv v ev
      exact ⟨u, ru, o, fz_at e0.hok e2, e3⟩
  have I : Inv (NdefX.ncx CX0 P w K mg base N (lamNF q params scope cl c') f A outer s (strip cl H) E0) [] (NdefX.startF N vs ws) (strip cl H) { s with heap := h₁, toks := s.toks + (ps.zip us).length } :=
    NdefX.inv_startN S hr.hd e1 hl r CA hns kp
  refine PySem.W.kla_codeExpr (wpAny_mono (ht.nox.run [] _ (NdefX.startF N vs ws) (strip cl H) _ I hq) (fun u s' hs => ?_) fun e s' hs => wpAny_mono hs (fun _ _ z => z.elim) fun _ _ z => z.elim)
  obtain ⟨v, H', J, rv, qv⟩ := hs
  have U : Un (frs outer) [] (strip cl H) H' s.heap s'.heap := J.base
  have cellLater : ∀ b, b ∈ cl.map (·.2) → ∃ o, H b = some (Fz o) ∧ s'.heap.get? b = some o := fun b hb => by
    obtain ⟨o, v, e1, e2, _⟩ := cellAt b hb
    refine ⟨o, e1, U.keep b o e2 (strip_in hb) (fun z => ?_) (by simp)⟩
    have := e0.frf b z
    rw [e1] at this
    cases this
  have inR : ∀ b, b ∈ cl.map (·.2) → relend cl H H' b = H b := fun b hb => if_pos hb
  have outR : ∀ b, b ∉ cl.map (·.2) → relend cl H H' b = H' b := fun b hb => if_neg hb
  have fS : ∀ b, b ∈ cl.map (·.2) → H' b = none := fun b hb => by
    obtain ⟨o, v, _, e2, _⟩ := cellAt b hb
    exact U.free b o e2 (strip_in hb) (by simp)
  refine ⟨v, relend cl H H', J.os, J.bare, ⟨fun b o e n hf hx => ?_, fun b o e n hf hx => ?_, fun b o e n hx => ?_, U.there, fun b xs e => ?_, fun b o y e => ?_, fun b ps e => ?_⟩, fun b y e => ?_, rv, qv fS⟩
  · exact U.keep b o e (nS b n) hf hx
  · exact U.slot b o e (nS b n) hf hx
  · by_cases hb : b ∈ cl.map (·.2)
    · rw [inR b hb]
      exact n
    · rw [outR b hb]
      exact U.free b o e (nS b n) hx
  · by_cases hb : b ∈ cl.map (·.2)
    · rw [inR b hb]
      exact e
    · rw [outR b hb]
      exact U.tups b xs (by rw [strip_out hb]; exact e)
  · by_cases hb : b ∈ cl.map (·.2)
    · rw [inR b hb]
      exact e
    · rw [outR b hb]
      exact U.frzs b o y (by rw [strip_out hb]; exact e)
  · by_cases hb : b ∈ cl.map (·.2)
    · rw [inR b hb]
      exact ⟨#[], by rw [e]; simp⟩
    · rw [outR b hb]
      exact U.tbls b ps (by rw [strip_out hb]; exact e)
  · by_cases hb : b ∈ cl.map (·.2)
    · obtain ⟨o, e1, e2⟩ := cellLater b hb
      rw [inR b hb, e1] at e
      cases e
      exact fz_ok e2
    · rw [outR b hb] at e
      have kp2 : ∀ c z, H' c = some z → relend cl H H' c = some z := fun c z hz => by
        have hc : c ∉ cl.map (·.2) := fun q => by
          rw [fS c q] at hz
          cases hz
        rw [outR c hc]
        exact hz
      exact (J.hok b y e).stay (fun _ _ _ q => q) (fun c q => kp2 c _ q) fun c xs q => kp2 c _ q
end
end Ord

namespace Ord
open PySem PySem.Spec PyProof.Rows L2 LamX
/-! ### how heaps follow one another -/
/-- what never changes -/
def Fixed : HO → Prop
  | .tup _ => True
  | .frz _ _ => True
  | .ext _ => True
  | _ => False
/-- the tuples stand -/
def TK (H H' : Hp) : Prop := ∀ b xs, H b = some (.tup xs) → H' b = some (.tup xs)
/-- all but q stands, the tuples stand -/
structure KB (q : Addr) (H H' : Hp) : Prop where
  keep : ∀ b o, b ≠ q → H b = some o → H' b = some o
  tk : TK H H'
/-- q stands, and what never changes -/
def Stay (q : Addr) (H H' : Hp) : Prop := ∀ b o, H b = some o → (b = q ∨ Fixed o) → H' b = some o
theorem TK.refl (H : Hp) : TK H H := fun _ _ h => h
theorem TK.trans {H H1 H2 : Hp} (a : TK H H1) (b : TK H1 H2) : TK H H2 := fun c xs h => b c xs (a c xs h)
theorem KB.refl (q : Addr) (H : Hp) : KB q H H := ⟨fun _ _ _ h => h, TK.refl H⟩
theorem KB.trans {q : Addr} {H H1 H2 : Hp} (a : KB q H H1) (b : KB q H1 H2) : KB q H H2 := ⟨fun c o n h => b.keep c o n (a.keep c o n h), a.tk.trans b.tk⟩
theorem KB.of_same {q : Addr} {H H' : Hp} (s : Same H H') : KB q H H' := ⟨fun b o _ h => s b o h, fun b xs h => s b _ h⟩
theorem KB.new {q p : Addr} {H : Hp} {o : HO} (n : H p = none) : KB q H (upd H p o) := .of_same fun b u e => by rw [upd_ne (ne_of_none e n)]; exact e
/-- p, new since H, is written -/
theorem KB.wr {q p : Addr} {H H' : Hp} {o : HO} (k : KB q H H') (n : H p = none) : KB q H (upd H' p o) :=
  ⟨fun b u hb e => by rw [upd_ne (ne_of_none e n)]; exact k.keep b u hb e, fun b xs e => by rw [upd_ne (ne_of_none e n)]; exact k.tk b xs e⟩
theorem Stay.of_same {q : Addr} {H H' : Hp} (s : Same H H') : Stay q H H' := fun b o h _ => s b o h
theorem Stay.new {q p : Addr} {H : Hp} {o : HO} (n : H p = none) : Stay q H (upd H p o) := .of_same fun b u e => by rw [upd_ne (ne_of_none e n)]; exact e
theorem Stay.trans {q : Addr} {H H1 H2 : Hp} (a : Stay q H H1) (b : Stay q H1 H2) : Stay q H H2 := fun c o h f => b c o (a c o h f) f
theorem Stay.wr {q p : Addr} {H : Hp} {o u : HO} (e : H p = some u) (nf : ¬ Fixed u) (hq : p ≠ q) : Stay q H (upd H p o) := fun b y h f => by
  have hb : b ≠ p := fun z => by
    rcases f with f | f
    · exact hq (z.symm.trans f)
    · rw [z, e] at h
      cases h
      exact nf f
  rw [upd_ne hb]
  exact h
theorem nf_lst {xs : List V} : ¬ Fixed (.lst xs) := fun z => z
theorem nf_ins {C dx : Addr} {fs : List (Str × V)} : ¬ Fixed (.ins C dx fs) := fun z => z
theorem Stay.tk {q : Addr} {H H' : Hp} (s : Stay q H H') : TK H H' := fun b xs e => s b _ e (.inr True.intro)
theorem Same.tk {H H' : Hp} (s : Same H H') : TK H H' := fun b xs e => s b _ e
theorem TK.new {p : Addr} {H : Hp} {o : HO} (n : H p = none) : TK H (upd H p o) := fun b u e => by rw [upd_ne (ne_of_none e n)]; exact e
theorem TK.wr {p : Addr} {H : Hp} {o u : HO} (e : H p = some u) (nf : ¬ Fixed u) : TK H (upd H p o) := fun b y h => by
  have hb : b ≠ p := fun z => by
    rw [z, e] at h
    cases h
    exact nf True.intro
  rw [upd_ne hb]
  exact h
/-- a row that questions don't change -/
def Row (K : PySem.W.Frag) (q : Addr) (H : Hp) (a : Addr) (xs : List V) : Prop := SqL K H a xs ∧ a ≠ q
theorem sq_keep {K : PySem.W.Frag} {H H' : Hp} {a : Addr} {xs : List V} (h : SqL K H a xs) (k : ∀ o, H a = some o → H' a = some o) : SqL K H' a xs := by
  rcases h with (h | ⟨o, h⟩) | h
  · exact .inl (.inl (k _ h))
  · exact .inl (.inr ⟨o, k _ h⟩)
  · exact .inr h
theorem Row.kb {K : PySem.W.Frag} {q : Addr} {H H' : Hp} {a : Addr} {xs : List V} (h : Row K q H a xs) (k : KB q H H') : Row K q H' a xs := ⟨sq_keep h.1 fun o e => k.keep a o h.2 e, h.2⟩
theorem Row.of {K : PySem.W.Frag} {q : Addr} {H : Hp} {a : Addr} {xs : List V} (h : H a = some (.lst xs)) (n : a ≠ q) : Row K q H a xs := ⟨SqL.of h, n⟩
theorem Row.ne {K : PySem.W.Frag} {q p : Addr} {H : Hp} {a : Addr} {xs : List V} {o : HO} (h : Row K q H a xs) (n : a ≠ p) : Row K q (upd H p o) a xs := ⟨sq_keep h.1 fun u e => by rw [upd_ne n]; exact e, h.2⟩
theorem Row.new {K : PySem.W.Frag} {q p : Addr} {H : Hp} {a : Addr} {xs : List V} {o : HO} (h : Row K q H a xs) (n : H p = none) : Row K q (upd H p o) a xs := ⟨sq_keep h.1 fun u e => by rw [upd_ne (ne_of_none e n)]; exact e, h.2⟩

/-! ### the function that is handed in -/
abbrev Lg := List (V × V)
/-- what a question asks and gives -/
def spAsk (q : Addr) (ans : Lg → V → V → Int) (Log : Lg → Hp → Prop) (Dom : V → Hp → Prop) : Sp := fun vs H Q _ => ∃ (x y : V) (l : Lg), vs = [x, y] ∧ Log l H ∧ l.length < 100000 ∧ Dom x H ∧ Dom y H ∧
  ∀ H', KB q H H' → Log (l ++ [(x, y)]) H' → Q (.int (ans l x y)) H'
structure Orc (P : Program) (w : World) (K : PySem.W.Frag) (mg : Str → Option Value) (base : Heap) where
  f : Addr
  q : Addr
  ans : Lg → V → V → Int
  Log : Lg → Hp → Prop
  Dom : V → Hp → Prop
  isf : ∀ {l H}, Log l H → IsFz H f
  isq : ∀ {l H}, Log l H → H q ≠ Option.none
  stay : ∀ {l H H'}, Stay q H H' → Log l H → Log l H'
  dom : ∀ {x H H'}, TK H H' → Dom x H → Dom x H'
  run : FnV P w K mg base 3 f (spAsk q ans Log Dom)
section
variable {P : Program} {w : World} {K : PySem.W.Frag} {mg : Str → Option Value} {base : Heap} (O : Orc P w K mg base)
/-- all of a row may be asked of -/
def Orc.All (xs : List V) (H : Hp) : Prop := ∀ x ∈ xs, O.Dom x H
variable {O}
theorem Orc.All.tk {xs : List V} {H H' : Hp} (h : O.All xs H) (k : TK H H') : O.All xs H' := fun x hx => O.dom k (h x hx)
theorem Orc.All.get {xs : List V} {H : Hp} {i : Nat} {x : V} (h : O.All xs H) (e : xs[i]? = some x) : O.Dom x H := h x (List.mem_of_getElem? e)
theorem Orc.nq {l : Lg} {H : Hp} {p : Addr} (h : O.Log l H) (n : H p = none) : p ≠ O.q := fun z => O.isq h (by rw [← z]; exact n)
theorem Orc.new {l : Lg} {H : Hp} {p : Addr} {o : HO} (h : O.Log l H) (n : H p = none) : O.Log l (upd H p o) := O.stay (Stay.new n) h
theorem Orc.wr {l : Lg} {H : Hp} {p : Addr} {o u : HO} (h : O.Log l H) (e : H p = some u) (nf : ¬ Fixed u) (hq : p ≠ O.q) : O.Log l (upd H p o) := O.stay (Stay.wr e nf hq) h
end
end Ord
namespace Ord
open PySem PySem.Spec PyProof.Rows L2 LamX
theorem KB.free {q p : Addr} {H H' : Hp} (k : KB q H H') (hq : p ≠ q) (n : H' p = none) : H p = none := by
  cases e : H p with
  | none => rfl
  | some o =>
    rw [k.keep p o hq e] at n
    cases n
theorem cut_from {xs : List V} {i : Nat} (h : i ≤ xs.length) : cutV xs (some (i : Int)) none = xs.drop i := by
  unfold cutV
  rw [HT.sIx_nat, HT.sIx_none, Nat.min_eq_left h, List.take_of_length_le (by rw [List.length_drop]; omega)]
theorem cut_to {xs : List V} {i : Nat} (h : i ≤ xs.length) : cutV xs none (some (i : Int)) = xs.take i := by
  unfold cutV
  rw [HT.sIx_nat, HT.sIx_none, Nat.min_eq_left h, List.drop_zero, Nat.sub_zero]
theorem cut_from1 (xs : List V) (i : Nat) : cutV xs (some (i : Int)) none = xs.drop i := by
  unfold cutV
  rw [HT.sIx_nat, HT.sIx_none]
  by_cases h : i ≤ xs.length
  · rw [Nat.min_eq_left h, List.take_of_length_le (by rw [List.length_drop]; omega)]
  · rw [Nat.min_eq_right (by omega), List.drop_of_length_le (Nat.le_refl _), List.drop_of_length_le (by omega)]
    simp
theorem cut_to1 (xs : List V) (i : Nat) : cutV xs none (some (i : Int)) = xs.take i := by
  unfold cutV
  rw [HT.sIx_nat, HT.sIx_none, List.drop_zero, Nat.sub_zero]
  by_cases h : i ≤ xs.length
  · rw [Nat.min_eq_left h]
  · rw [Nat.min_eq_right (by omega), List.take_of_length_le (Nat.le_refl _), List.take_of_length_le (by omega)]
theorem z1000 {n : Nat} (h : n ≤ 1000) : n ≤ sizeLine := Nat.le_of_lt (small1000 h)
/-- a test whose answer is told -/
theorem iteB {c : Bool} {A B : Prop} (h1 : c = true → A) (h2 : c = false → B) : if c = true then A else B := by
  cases c with
  | true => exact iteT (h1 rfl)
  | false => exact iteF (h2 rfl)
theorem iteD {p : Prop} [Decidable p] {A B : Prop} (h1 : p → A) (h2 : ¬ p → B) : if decide p = true then A else B := iteB (fun e => h1 (of_decide_eq_true e)) fun e => h2 (of_decide_eq_false e)
end Ord
namespace Ord
open PySem PySem.Spec PyProof.Rows L2 LamX
/-! ### operators whose answer is named by the one who asks -/
def rE (C : Int → Int → Prop) (g : Int → Int → Int) : R2 := fun x y H Q => ∃ i j z : Int, x = .int i ∧ y = .int j ∧ C i j ∧ z = g i j ∧ Q (.int z) H
def rE0 (g : Int → Int → Int) : R2 := fun x y H Q => ∃ i j z : Int, x = .int i ∧ y = .int j ∧ z = g i j ∧ Q (.int z) H
section
variable {X : Cx}
theorem opE {f : Value → Value → Sem Value} {C : Int → Int → Prop} {g : Int → Int → Int} (h : OpR X f (rI C fun i j => .int (g i j))) : OpR X f (rE C g) := by
  intro pins s σ H x y v u Q I rx ry q
  obtain ⟨i, j, z, e1, e2, hc, rfl, q⟩ := q
  exact h pins s σ H x y v u Q I rx ry ⟨i, j, e1, e2, hc, q⟩
theorem opE0 {f : Value → Value → Sem Value} {g : Int → Int → Int} (h : OpR X f (rI0 fun i j => .int (g i j))) : OpR X f (rE0 g) := by
  intro pins s σ H x y v u Q I rx ry q
  obtain ⟨i, j, z, e1, e2, rfl, q⟩ := q
  exact h pins s σ H x y v u Q I rx ry ⟨i, j, e1, e2, q⟩
theorem op_fdivE : OpR X (binaryOp .FloorDiv) (rE CDiv fun i j => i / j) := opE op_fdiv
theorem op_addE : OpR X (binaryOp .Add) (rE0 fun i j => i + j) := opE0 op_add
theorem op_subE : OpR X (binaryOp .Sub) (rE0 fun i j => i - j) := opE0 op_sub
theorem op_mulE : OpR X (binaryOp .Mult) (rE CMul fun i j => i * j) := opE op_mul
theorem op_modE : OpR X (binaryOp .Mod) (rE (fun _ j => 0 < j) fun i j => i % j) := opE op_mod
end
end Ord
namespace Ord
open PySem PySem.Spec PyProof.Rows L2 LamX
/-! ### defs of the text by name -/
structure Df (K : PySem.W.Frag) (mg : Str → Option Value) (x : Str) (st : Stmt) (ps : List Str) where
  f : Addr
  fd : FuncData
  F : Fun K x x st f fd
  g : mg x = some (.ref f)
  b : Binds K fd ps []
section
variable {X : Cx} {k : Nat} {x : Str} {st : Stmt} {ps : List Str} {sp : Sp} {p pos : Pos} {e : Expr} {es : List Expr} {t : TA} {te : TE}
theorem pe_cd {d : Df X.K X.mg x st ps} (G : FnOk X.prog X.w X.K X.mg X.base CX0 k d.f d.fd ps sp) (hr : Room k X.A) (ha : PA X (e :: es) t) (hg : Gl X x := by rfl) (hdb : (x == ("__debug__" : Str)) = false := by decide)
    (he : starEach (e :: es) X.env = (false, eval e X.env) :: starEach es X.env := by rfl) (hpl : (backTo pos (starEach es X.env)).any (·.1) = false := by rfl) : PE X (.Call (.Name x p) (e :: es) [] pos) (tCall sp [] E0 t) :=
  pe_call G hr hg d.g d.F.kp d.b .nil pass0 ha hdb he hpl
theorem pe_cdLent {d : Df X.K X.mg x st ps} (G : FnOk X.prog X.w X.K X.mg X.base CX0 k d.f d.fd ps sp) (hr : Room k X.A) (un : UniqC X.env.cells) (hfn : ∀ x, X.fn x = true) (ha : PA X (e :: es) t) (hg : Gl X x := by rfl) (hdb : (x == ("__debug__" : Str)) = false := by decide)
    (he : starEach (e :: es) X.env = (false, eval e X.env) :: starEach es X.env := by rfl) (hpl : (backTo pos (starEach es X.env)).any (·.1) = false := by rfl) : PE X (.Call (.Name x p) (e :: es) [] pos) (tCallLent X sp t) :=
  pe_callLent G hr hg d.g d.F.kp d.b un hfn (fun _ _ _ _ z => z) ha hdb he hpl
/-- len(e): a list, a tuple -/
def rLen1 (K : PySem.W.Frag) : List V → Hp → VK → Prop := fun xs H Q => ∃ p ys, xs = [V.ref p] ∧ (SqL K H p ys ∨ SqT K H p ys) ∧ Q (.int (ys.length : Nat)) H
theorem pe_len (mL : X.mg "len" = none) (h : PE X e te) (hg : Gl X "len" := by rfl) (he : starEach [e] X.env = (false, eval e X.env) :: starEach [] X.env := by rfl) (hpl : (backTo pos (starEach [] X.env)).any (·.1) = false := by rfl) :
    PE X (.Call (.Name "len" p) [e] [] pos) (tCB (rLen1 X.K) (tCons te tNil)) :=
  pe_callB call_len_seq hg mL PySem.boot_len (pa_cons h pa_nil he) (by decide) (by decide) he hpl
end
theorem hu65 {A : Around} {k : Nat} (hr : Room k A) : A.units + 65 < cLine := Nat.lt_of_le_of_lt (Nat.add_le_add_left (by decide : 65 ≤ 200) _) (Nat.lt_of_le_of_lt (by omega) hr.un)
/-! ### cells: no name twice -/
theorem cells_keys : ∀ (names : List (Str × NameKind)) (n : Nat) (acc : List (Str × Addr)), (names.map (·.1)).Nodup → (acc.map (·.1)).Nodup → (∀ x ∈ names.map (·.1), x ∉ acc.map (·.1)) → ((cellsFrom n names acc).map (·.1)).Nodup
  | [], n, acc, _, h, _ => h
  | (y, k) :: r, n, acc, h1, h2, h3 => by
    rw [List.map_cons, List.nodup_cons] at h1
    unfold cellsFrom
    split
    · refine cells_keys r (n + 1) _ h1.2 ?_ fun x hx => ?_
      · rw [List.map_cons, List.nodup_cons]
        exact ⟨h3 y (by rw [List.map_cons]; exact List.mem_cons_self), h2⟩
      · rw [List.map_cons, List.mem_cons, not_or]
        refine ⟨fun e => ?_, h3 x (by rw [List.map_cons]; exact List.mem_cons_of_mem _ hx)⟩
        subst e
        exact h1.1 hx
    · exact cells_keys r n acc h1.2 h2 fun x hx => h3 x (by rw [List.map_cons]; exact List.mem_cons_of_mem _ hx)
theorem lookup_of_keys : ∀ {cs : List (Str × Addr)} {x : Str} {c : Addr}, (cs.map (·.1)).Nodup → (x, c) ∈ cs → cs.lookup x = some c
  | (y, d) :: r, x, c, h, hm => by
    rw [List.map_cons, List.nodup_cons] at h
    rw [List.lookup_cons]
    rcases List.mem_cons.mp hm with e | e
    · cases e
      simp
    · have hx : (x == y) = false := beq_eq_false_iff_ne.mpr fun z => by
        subst z
        exact h.1 (List.mem_map.mpr ⟨_, e, rfl⟩)
      rw [hx]
      exact lookup_of_keys h.2 e
theorem uniq_cells {names : List (Str × NameKind)} {n : Nat} (h : (names.map (·.1)).Nodup) : UniqC (cellsFrom n names []) := fun b hb => by
  obtain ⟨⟨x, c⟩, hm, e⟩ := List.mem_map.mp hb
  have e : c = b := e
  subst e
  exact ⟨x, lookup_of_keys (cells_keys names n [] h (by simp) (by simp)) hm⟩
end Ord
namespace Ord
open PySem PySem.Spec PyProof.Rows L2 LamX
theorem Same.new {H : Hp} {p : Addr} {o : HO} (n : H p = none) : Same H (upd H p o) := fun b u e => by rw [upd_ne (ne_of_none e n)]; exact e
/-- behind a new object -/
theorem kn {H : Hp} {p b : Addr} {o u : HO} (n : H p = none) (e : H b = some u) : upd H p o b = some u := (upd_ne (ne_of_none e n)).trans e
end Ord

/-! What the laws' helpers compute. -/
namespace Mir
def cellI (ns : List Int) (k : Nat) : Int := if ns = [] then (k : Int) * 7919 else ns.getD (k % ns.length) 0 + ((k / ns.length : Nat) : Int) * 104729
def moreI (c : Int) (k : Nat) : Int := (c * 6364136223846793005 + ((k : Int) + 1) * 1442695040888963407) % 340282366920938463463374607431768211507
def drawn (c : Int) (k : Nat) : Int := moreI c k * moreI c k % 340282366920938463463374607431768211297
theorem moreI_nn (c : Int) (k : Nat) : 0 ≤ moreI c k ∧ moreI c k < 340282366920938463463374607431768211507 := ⟨Int.emod_nonneg _ (by decide), Int.emod_lt_of_pos _ (by decide)⟩
theorem drawn_nn (c : Int) (k : Nat) : 0 ≤ drawn c k ∧ drawn c k < 340282366920938463463374607431768211297 := ⟨Int.emod_nonneg _ (by decide), Int.emod_lt_of_pos _ (by decide)⟩
/-- the law's draw at a cell -/
def dr (ns : List Int) (c k : Nat) : Int := drawn (cellI ns c) k
theorem dr_nn (ns : List Int) (c k : Nat) : 0 ≤ dr ns c k ∧ dr ns c k < 340282366920938463463374607431768211297 := drawn_nn _ _
/-! ### the least power of two -/
def clog (n : Nat) : Nat := if n ≤ 1 then 0 else clog ((n + 1) / 2) + 1
decreasing_by omega
theorem clog_lt : ∀ (k n : Nat), 2 ^ k < n ↔ k < clog n
  | 0, n => by
    rw [clog]
    split
    · simp; omega
    · simp; omega
  | k + 1, n => by
    have ih := clog_lt k ((n + 1) / 2)
    rw [clog]
    have e : 2 ^ (k + 1) = 2 * 2 ^ k := by rw [Nat.pow_succ]; omega
    split
    · have : 0 < 2 ^ k := Nat.pow_pos (by decide)
      omega
    · rw [e]
      omega
theorem clog_le {n k : Nat} : clog n ≤ k ↔ n ≤ 2 ^ k := by
  have h := clog_lt k n
  omega
theorem le_clog (n : Nat) : n ≤ 2 ^ clog n := clog_le.mp (Nat.le_refl _)
theorem clog_mono {m n : Nat} (h : m ≤ n) : clog m ≤ clog n := clog_le.mpr (Nat.le_trans h (le_clog n))
theorem clog_le_self (n : Nat) : clog n ≤ n := clog_le.mpr (Nat.le_of_lt Nat.lt_two_pow_self)
/-! ### the six orders -/
def b01 (b : Bool) : Int := if b then 1 else 0
def ansI (way : Int) (x y : Int × Int) : Int :=
  if way = 1 then 0 - (x.1 - y.1) else if way = 2 then x.1 / 3 - y.1 / 3
  else if way = 3 then (b01 (decide (0 < x.1 - y.1)) - b01 (decide (x.1 - y.1 < 0))) * (1 + (if x.2 < 0 then -x.2 else x.2) % 9)
  else if way = 4 then (x.1 - y.1) * 100000000000000000000
  else if way = 5 then (if x.1 - 4 < 0 then -(x.1 - 4) else x.1 - 4) - (if y.1 - 4 < 0 then -(y.1 - 4) else y.1 - 4)
  else x.1 - y.1
def keyI (way : Int) (x : Int × Int) : Int :=
  if way = 1 then 0 - x.1 else if way = 2 then x.1 / 3 else if way = 5 then (if x.1 - 4 < 0 then -(x.1 - 4) else x.1 - 4) else x.1
/-- answers that tell an order by a key -/
structure KeyA {α : Type} (ans : List (α × α) → α → α → Int) (key : α → Int) : Prop where
  pos : ∀ l x y, 0 < ans l x y ↔ key y < key x
  neg : ∀ l x y, ans l x y < 0 ↔ key x < key y
theorem KeyA.le {α : Type} {ans : List (α × α) → α → α → Int} {key : α → Int} (h : KeyA ans key) (l : List (α × α)) (x y : α) : ans l x y ≤ 0 ↔ key x ≤ key y := by
  have := h.pos l x y
  omega
theorem KeyA.eq {α : Type} {ans : List (α × α) → α → α → Int} {key : α → Int} (h : KeyA ans key) (l : List (α × α)) (x y : α) : ans l x y = 0 ↔ key x = key y := by
  have h1 := h.pos l x y
  have h2 := h.neg l x y
  omega
theorem KeyA.ge {α : Type} {ans : List (α × α) → α → α → Int} {key : α → Int} (h : KeyA ans key) (l : List (α × α)) (x y : α) : 0 ≤ ans l x y ↔ key y ≤ key x := by
  have h2 := h.neg l x y
  omega
theorem ansI_pos (way : Int) (x y : Int × Int) : (0 < ansI way x y ↔ keyI way y < keyI way x) ∧ (ansI way x y < 0 ↔ keyI way x < keyI way y) := by
  unfold ansI keyI
  by_cases h1 : way = 1
  · simp only [if_pos h1]; omega
  · by_cases h2 : way = 2
    · simp only [if_neg h1, if_pos h2]; omega
    · by_cases h3 : way = 3
      · have n5 : ¬ way = 5 := by omega
        simp only [if_neg h1, if_neg h2, if_pos h3, if_neg n5]
        obtain ⟨m, hm, hm1⟩ : ∃ m : Int, (1 + (if x.2 < 0 then -x.2 else x.2) % 9) = m ∧ 0 < m := ⟨_, rfl, by
          have := Int.emod_nonneg (if x.2 < 0 then -x.2 else x.2) (show (9 : Int) ≠ 0 by decide)
          omega⟩
        rw [hm]
        unfold b01
        by_cases a : 0 < x.1 - y.1
        · have b : ¬ x.1 - y.1 < 0 := by omega
          simp only [decide_eq_true a, decide_eq_false b, if_true, Bool.false_eq_true, if_false]
          omega
        · by_cases b : x.1 - y.1 < 0
          · simp only [decide_eq_false a, decide_eq_true b, if_true, Bool.false_eq_true, if_false]
            omega
          · simp only [decide_eq_false a, decide_eq_false b, Bool.false_eq_true, if_false]
            omega
      · by_cases h4 : way = 4
        · have n5 : ¬ way = 5 := by omega
          simp only [if_neg h1, if_neg h2, if_neg h3, if_pos h4, if_neg n5]; omega
        · by_cases h5 : way = 5
          · simp only [if_neg h1, if_neg h2, if_neg h3, if_neg h4, if_pos h5]; omega
          · simp only [if_neg h1, if_neg h2, if_neg h3, if_neg h4, if_neg h5]; omega
theorem keyA_of {α : Type} (way : Int) (c : α → Int × Int) : KeyA (fun _ x y => ansI way (c x) (c y)) (fun x => keyI way (c x)) := ⟨fun _ x y => (ansI_pos way (c x) (c y)).1, fun _ x y => (ansI_pos way (c x) (c y)).2⟩
/-! ### the stable order, element by element -/
section
variable {α : Type}
def plc (key : α → Int) (made : List α) (e : α) : Nat → Nat
  | 0 => 0
  | n + 1 => match made[n]? with
    | some z => if key e < key z then plc key made e n else n + 1
    | none => n + 1
def ins1 (key : α → Int) (made : List α) (e : α) : List α := made.take (plc key made e made.length) ++ [e] ++ made.drop (plc key made e made.length)
def isort (key : α → Int) (xs : List α) : List α := xs.foldl (ins1 key) []
theorem plc_le (key : α → Int) (made : List α) (e : α) : ∀ n, plc key made e n ≤ n
  | 0 => Nat.le_refl 0
  | n + 1 => by
    have ih := plc_le key made e n
    unfold plc
    split
    · split
      · omega
      · omega
    · omega
theorem ins1_len (key : α → Int) (made : List α) (e : α) : (ins1 key made e).length = made.length + 1 := by
  have h := plc_le key made e made.length
  unfold ins1
  simp only [List.length_append, List.length_take, List.length_drop, List.length_singleton]
  omega
theorem isort_snoc (key : α → Int) (xs : List α) (e : α) : isort key (xs ++ [e]) = ins1 key (isort key xs) e := by
  unfold isort
  rw [List.foldl_append]
  rfl
theorem isort_len (key : α → Int) (xs : List α) : (isort key xs).length = xs.length := by
  have : ∀ (ys : List α) (acc : List α), (ys.foldl (ins1 key) acc).length = acc.length + ys.length := by
    intro ys
    induction ys with
    | nil => intro acc; simp
    | cons y ys ih => intro acc; rw [List.foldl_cons, ih, ins1_len, List.length_cons]; omega
  unfold isort
  rw [this]
  simp
theorem ins1_mem {key : α → Int} {made : List α} {e z : α} (h : z ∈ ins1 key made e) : z ∈ made ∨ z = e := by
  unfold ins1 at h
  rcases List.mem_append.mp h with h | h
  · rcases List.mem_append.mp h with h | h
    · exact .inl (List.mem_of_mem_take h)
    · exact .inr (List.mem_singleton.mp h)
  · exact .inl (List.mem_of_mem_drop h)
theorem isort_mem {key : α → Int} {xs : List α} {z : α} (h : z ∈ isort key xs) : z ∈ xs := by
  have : ∀ (ys : List α) (acc : List α), z ∈ ys.foldl (ins1 key) acc → z ∈ acc ∨ z ∈ ys := by
    intro ys
    induction ys with
    | nil => intro acc q; exact .inl q
    | cons y ys ih =>
      intro acc q
      rw [List.foldl_cons] at q
      rcases ih _ q with q | q
      · rcases ins1_mem q with q | q
        · exact .inl q
        · exact .inr (by rw [q]; exact List.mem_cons_self)
      · exact .inr (List.mem_cons_of_mem _ q)
  rcases this xs [] h with q | q
  · cases q
  · exact q
end
end Mir
namespace Mir
section
variable {α : Type}
theorem plc_zero (key : α → Int) (made : List α) (e : α) : plc key made e 0 = 0 := by unfold plc; rfl
theorem plc_lt {key : α → Int} {made : List α} {e z : α} {n : Nat} (h : made[n]? = some z) (hz : key e < key z) : plc key made e (n + 1) = plc key made e n := by
  rw [plc]
  rw [h]
  exact if_pos hz
theorem plc_ge {key : α → Int} {made : List α} {e z : α} {n : Nat} (h : made[n]? = some z) (hz : ¬ key e < key z) : plc key made e (n + 1) = n + 1 := by
  rw [plc]
  rw [h]
  exact if_neg hz
end
end Mir

namespace Ord
open PySem PySem.Spec PyProof.Rows L2 LamX
/-! ### elements: pairs of whole numbers -/
def pd (e : Int × Int) : PyData := .tuple [.int e.1, .int e.2]
/-- x is a tuple of the two numbers e -/
def Pr (H : Hp) (x : V) (e : Int × Int) : Prop := ∃ p, x = .ref p ∧ H p = some (.tup [.int e.1, .int e.2])
/-- what stands at an element -/
def cnt (H : Hp) (x : V) : Int × Int := match x with
  | .ref p => (match H p with
    | some (.tup [.int a, .int b]) => (a, b)
    | _ => (0, 0))
  | _ => (0, 0)
theorem Pr.tk {H H' : Hp} {x : V} {e : Int × Int} (h : Pr H x e) (k : TK H H') : Pr H' x e := by
  obtain ⟨p, e1, e2⟩ := h
  exact ⟨p, e1, k _ _ e2⟩
theorem Pr.cnt {H : Hp} {x : V} {e : Int × Int} (h : Pr H x e) : Ord.cnt H x = e := by
  obtain ⟨p, rfl, e2⟩ := h
  unfold Ord.cnt
  simp only [e2]
theorem Pr.inj {H : Hp} {x : V} {e e' : Int × Int} (h : Pr H x e) (h' : Pr H x e') : e = e' := by rw [← h.cnt, h'.cnt]
/-- numbers that may be multiplied -/
def Sm (i : Int) : Prop := i.natAbs < 2 ^ 200
theorem Sm.of {i : Int} (h1 : -(2 ^ 199) ≤ i) (h2 : i ≤ 2 ^ 199) : Sm i := by
  unfold Sm
  have e : (2 : Int) ^ 199 = ((2 ^ 199 : Nat) : Int) := by norm_cast
  rw [e] at h1 h2
  have e2 : (2 : Nat) ^ 200 = 2 ^ 199 + 2 ^ 199 := by decide
  have e3 : 0 < (2 : Nat) ^ 199 := by decide
  omega
def Sn (i : Int) : Prop := i.natAbs < 2 ^ 190
theorem Sn.sub {i j : Int} (h1 : Sn i) (h2 : Sn j) : Sm (i - j) := by
  unfold Sn at h1 h2
  unfold Sm
  have e : (2 : Nat) ^ 190 + 2 ^ 190 ≤ 2 ^ 200 := by decide
  omega
theorem Sn.of {i : Int} (h1 : -1000000000000000000000000000000000000000 ≤ i) (h2 : i ≤ 1000000000000000000000000000000000000000) : Sn i := by
  unfold Sn
  have e : 1000000000000000000000000000000000000000 < (2 : Nat) ^ 190 := by decide
  omega
/-- an element of contents c x -/
def El (c : V → Int × Int) (x : V) (H : Hp) : Prop := Pr H x (c x) ∧ Sn (c x).1 ∧ Sn (c x).2
theorem El.tk {c : V → Int × Int} {x : V} {H H' : Hp} (k : TK H H') (h : El c x H) : El c x H' := ⟨h.1.tk k, h.2⟩
def Els (c : V → Int × Int) (xs : List V) (H : Hp) : Prop := ∀ x ∈ xs, El c x H
theorem Els.tk {c : V → Int × Int} {xs : List V} {H H' : Hp} (h : Els c xs H) (k : TK H H') : Els c xs H' := fun x hx => (h x hx).tk k
theorem El.now {c : V → Int × Int} {x : V} {H : Hp} (h : El c x H) : El (cnt H) x H := by
  obtain ⟨a, b1, b2⟩ := h
  have e := a.cnt
  exact ⟨by rw [e]; exact a, by rw [e]; exact b1, by rw [e]; exact b2⟩
theorem El.eqc {c : V → Int × Int} {x : V} {H : Hp} (h : El c x H) : cnt H x = c x := h.1.cnt
theorem Els.now {c : V → Int × Int} {xs : List V} {H : Hp} (h : Els c xs H) : Els (cnt H) xs H := fun x hx => (h x hx).now
/-! ### as data -/
theorem dp_el {K : PySem.W.Frag} {H : Hp} {x : V} {e : Int × Int} (h : Pr H x e) : Dp K H x (pd e) := by
  obtain ⟨p, rfl, e2⟩ := h
  exact .tup (SqT.of e2) (.cons (.int _) (.cons (.int _) .nil))
theorem dp_els {K : PySem.W.Frag} {H : Hp} {c : V → Int × Int} : ∀ {xs : List V}, Els c xs H → DpAll K H xs (xs.map fun x => pd (c x))
  | [], _ => .nil
  | x :: xs, h => .cons (dp_el (h x List.mem_cons_self).1) (dp_els fun y hy => h y (List.mem_cons_of_mem _ hy))
theorem dp_row {K : PySem.W.Frag} {H : Hp} {c : V → Int × Int} {a : Addr} {xs : List V} (s : SqL K H a xs) (h : Els c xs H) : Dp K H (.ref a) (.list (xs.map fun x => pd (c x))) := .lst s (dp_els h)
theorem dp_ints {K : PySem.W.Frag} {H : Hp} : ∀ (ns : List Int), DpAll K H (ns.map V.int) (ns.map PyData.int)
  | [] => .nil
  | n :: ns => .cons (.int n) (dp_ints ns)
theorem canLay_pd (e : Int × Int) : (pd e).canLay0 = true := by simp [pd, PyData.canLay0, PyData.canLayAll0]
theorem depth_pd (e : Int × Int) : (pd e).depth ≤ 4 := by simp [pd, PyData.depth, PyData.depthAll]
theorem canLayAll_pd {α : Type} (g : α → Int × Int) : ∀ xs : List α, PyData.canLayAll0 (xs.map fun x => pd (g x)) = true
  | [] => rfl
  | x :: xs => by
    rw [List.map_cons, PyData.canLayAll0, canLay_pd, canLayAll_pd g xs]
    rfl
theorem depthAll_pd {α : Type} (g : α → Int × Int) : ∀ xs : List α, PyData.depthAll (xs.map fun x => pd (g x)) ≤ 4
  | [] => by simp [PyData.depthAll]
  | x :: xs => by
    have h1 := depth_pd (g x)
    have h2 := depthAll_pd g xs
    rw [List.map_cons, PyData.depthAll]
    omega
theorem shaped_of {d : PyData} (h1 : d.canLay0 = true) (h2 : d.depth ≤ 64) : SeqAt.shaped d = true := by
  unfold SeqAt.shaped
  rw [h1, decide_eq_true h2]
  rfl
theorem shaped_pd (e : Int × Int) : SeqAt.shaped (pd e) = true := shaped_of (canLay_pd e) (Nat.le_trans (depth_pd e) (by decide))
theorem shaped_row {α : Type} (g : α → Int × Int) (xs : List α) : SeqAt.shaped (.list (xs.map fun x => pd (g x))) = true := by
  have h := depthAll_pd g xs
  refine shaped_of (by rw [PyData.canLay0]; exact canLayAll_pd g xs) ?_
  rw [PyData.depth]
  omega
theorem shaped_nil : SeqAt.shaped (.list []) = true := shaped_row (fun x : Int × Int => x) []
theorem shaped_ints (ns : List Int) : SeqAt.shaped (.list (ns.map PyData.int)) = true := by
  have a : ∀ ns : List Int, PyData.canLayAll0 (ns.map PyData.int) = true ∧ PyData.depthAll (ns.map PyData.int) ≤ 1 := by
    intro ns
    induction ns with
    | nil => exact ⟨rfl, by simp [PyData.depthAll]⟩
    | cons n ns ih =>
      rw [List.map_cons, PyData.canLayAll0, PyData.depthAll, ih.1]
      refine ⟨rfl, ?_⟩
      have : (PyData.int n).depth ≤ 1 := by simp [PyData.depth]
      omega
  refine shaped_of (by rw [PyData.canLay0]; exact (a ns).1) ?_
  rw [PyData.depth]
  have := (a ns).2
  omega
theorem eqv_pd (a b : Int × Int) : PyData.eqv (pd a) (pd b) = decide (a = b) := by
  obtain ⟨a1, a2⟩ := a
  obtain ⟨b1, b2⟩ := b
  unfold pd
  rw [PyData.eqv, PyData.eqvAll, PyData.eqvAll, PyData.eqvAll, PyData.eqv, PyData.eqv]
  by_cases h1 : a1 = b1
  · by_cases h2 : a2 = b2
    · subst h1 h2
      simp
    · simp [h1, h2]
  · simp [h1]
theorem eqvAll_pd {α β : Type} (g : α → Int × Int) (g' : β → Int × Int) : ∀ (xs : List α) (ys : List β), PyData.eqvAll (xs.map fun x => pd (g x)) (ys.map fun x => pd (g' x)) = decide (xs.map g = ys.map g')
  | [], [] => by rw [List.map_nil, List.map_nil, List.map_nil, PyData.eqvAll]; simp
  | [], y :: ys => by rw [List.map_nil, List.map_cons, PyData.eqvAll]; simp
  | x :: xs, [] => by rw [List.map_cons, List.map_nil, PyData.eqvAll]; simp
  | x :: xs, y :: ys => by
    rw [List.map_cons, List.map_cons, PyData.eqvAll, eqv_pd, eqvAll_pd g g' xs ys]
    by_cases h1 : g x = g' y
    · by_cases h2 : xs.map g = ys.map g'
      · simp [h1, h2]
      · simp [h1, h2]
    · simp [h1]
theorem eqv_row {α β : Type} (g : α → Int × Int) (g' : β → Int × Int) (xs : List α) (ys : List β) : PyData.eqv (.list (xs.map fun x => pd (g x))) (.list (ys.map fun x => pd (g' x))) = decide (xs.map g = ys.map g') := by
  rw [PyData.eqv]
  exact eqvAll_pd g g' xs ys
theorem eqv_ints_nil (ns : List Int) : PyData.eqv (.list (ns.map PyData.int)) (.list []) = decide (ns = []) := by
  cases ns with
  | nil => rw [List.map_nil, PyData.eqv, PyData.eqvAll]; simp
  | cons n ns => rw [List.map_cons, PyData.eqv, PyData.eqvAll]; simp
theorem any_pd {α : Type} (g : α → Int × Int) (e : Int × Int) (xs : List α) : (xs.map fun x => pd (g x)).any (fun z => PyData.eqv z (pd e)) = decide (e ∈ xs.map g) := by
  induction xs with
  | nil => simp
  | cons x xs ih =>
    rw [List.map_cons, List.any_cons, ih, eqv_pd, List.map_cons]
    by_cases h1 : g x = e
    · simp [h1]
    · by_cases h2 : e ∈ xs.map g
      · simp [h2]
      · have h3 : ¬ e = g x := fun z => h1 z.symm
        simp [h1, h2, h3]
/-! ### great numbers -/
def CMulB (i j : Int) : Prop := Sm i ∧ Sm j
section
variable {X : Cx}
theorem op_mulB : OpR X (binaryOp .Mult) (rE CMulB fun i j => i * j) := by
  intro pins s σ H x y v u Q I rx ry q
  obtain ⟨i, j, z, e1, e2, ⟨h1, h2⟩, rfl, q⟩ := q
  exact op_mulW pins s σ H x y v u Q I rx ry ⟨i, j, e1, e2, wide_mul (a := 200) (b := 200) h1 h2 (by decide) (by decide) (by decide), q⟩
end
end Ord
namespace Ord
open PySem PySem.Spec PyProof.Rows L2 LamX
/-! ### the same rules, the written part named (for comprehensions) -/
section
variable {X : Cx} {K : PySem.W.Frag} {e : Expr} {te : TE} {p pos : Pos} {f : Str}
theorem ix_listK (hK : X.K = K := by rfl) : IxR X (rIxL K) := hK ▸ ix_list
theorem ix_tupK (hK : X.K = K := by rfl) : IxR X (rIxT K) := hK ▸ ix_tup
theorem sl_listK (hK : X.K = K := by rfl) : SlR X (rSlL K) := hK ▸ sl_list
theorem op_eqDK (hu : X.A.units + 64 < cLine) (hK : X.K = K := by rfl) : OpR X (compareOp .Eq) (rEqD K) := hK ▸ op_eqD hu
theorem op_neDK (hu : X.A.units + 64 < cLine) (hK : X.K = K := by rfl) : OpR X (compareOp .NotEq) (rNeD K) := hK ▸ op_neD hu
theorem op_inDK (hu : X.A.units + 65 < cLine) (hK : X.K = K := by rfl) : OpR X (compareOp .In) (rInD K) := hK ▸ op_inD hu
theorem op_notInDK (hu : X.A.units + 65 < cLine) (hK : X.K = K := by rfl) : OpR X (compareOp .NotIn) (rNotInD K) := hK ▸ op_notInD hu
theorem pe_lenK (mL : X.mg "len" = none) (h : PE X e te) (hK : X.K = K := by rfl) (hg : Gl X "len" := by rfl) (he : starEach [e] X.env = (false, eval e X.env) :: starEach [] X.env := by rfl) (hpl : (backTo pos (starEach [] X.env)).any (·.1) = false := by rfl) :
    PE X (.Call (.Name "len" p) [e] [] pos) (tCB (rLen1 K) (tCons te tNil)) := hK ▸ pe_len mL h hg he hpl
end
end Ord
namespace Ord
open PySem PySem.Spec PyProof.Rows L2 LamX
section
variable {X : Cx} {K : PySem.W.Frag} {e : Expr} {te : TE} {p pos : Pos} {f : Str}
theorem pg_tupK {es : List Expr} {k : Nat} {t : TGs} {n : Nat} (hc : X.calm = true) (h : PGs X es t) (hK : X.K = K := by rfl)
    (hn : (assignEach es X.env).length = n := by rfl) (hst : (assignEach es X.env).findIdx? (·.1) = none := by rfl) : PG X (.Tuple es k pos) (gTup K n t) := hK ▸ pg_tup hc h hn hst
theorem cr_allK (hc : X.calm = true) (hK : X.K = K := by rfl) : CallR X (.builtin "all") (rAll K) := hK ▸ cr_all hc
theorem cr_anyK (hc : X.calm = true) (hK : X.K = K := by rfl) : CallR X (.builtin "any") (rAny K) := hK ▸ cr_any hc
theorem pe_fldK (he : PE X e te) (hb : attributeBase e f X.env (eval e X.env) = eval e X.env) (hK : X.K = K := by rfl) : PE X (.Attribute e f pos) (tFld K te f) := hK ▸ pe_fld he hb
end
end Ord

namespace Ord
open PySem PySem.Spec PyProof.Rows L2 LamX
section
variable {P : Program} {w : World} {K : PySem.W.Frag} {mg : Str → Option Value} {base : Heap}
/-! ### _law_cell -/
def N__law_cell : List Str := ["_law_script", "_law_k"]
theorem sc__law_cell : FnScope ["_law_script", "_law_k"] ["_law_script", "_law_k"] (defScope st__law_cell) := ⟨rfl, rfl, rfl, by decide +kernel, rfl, by decide +kernel, by decide +kernel⟩
def spCellK (K : PySem.W.Frag) : Sp := fun vs H Q _ => ∃ (a : Addr) (ns : List Int) (k : Nat), vs = [.ref a, .int (k : Int)] ∧ SqL K H a (ns.map V.int) ∧ ns.length ≤ 1000 ∧ ∀ H', Same H H' → Q (.int (Mir.cellI ns k)) H'
theorem ok_cell (d__law_cell : Df K mg "_law_cell" st__law_cell ["_law_script", "_law_k"]) (mLen : mg "len" = none) : FnOk P w K mg base CX0 1 d__law_cell.f d__law_cell.fd ["_law_script", "_law_k"] (spCellK K) := by
  refine d__law_cell.F.ok sc__law_cell (fun vs H Q E h => ?_) (fun cdv A outer s H vs Q E hr h => ?_)
  · obtain ⟨a, ns, k, rfl, _⟩ := h
    rfl
  · obtain ⟨a, ns, k, rfl, hS, hz, hQ⟩ := h
    refine ⟨_, (pss_cons (ps_if (pt_cmpR (op_eqD hr.units) (pv 0) (pe_lst pa_nil) (nomark _))
    (pss_one (ps_ret (pe_op op_mulE (pv 1) pe_int)))
    pss_nil)
  (pss_one (ps_ret (pe_op op_addE (pe_ix ix_list (pv 0) (pe_op op_modE (pv 1) (pe_len mLen (pv 0))) (fun _ _ => rfl)) (pe_op op_mulE (pe_op op_fdivE (pv 1) (pe_len mLen (pv 0))) pe_int))))), ?_⟩
    refine ⟨_, rfl, Nat.zero_le _, fun p np => ?_⟩
    have s1 : Same H (upd H p (.lst [])) := fun b o e => by rw [upd_ne (ne_of_none e np)]; exact e
    have hS1 := s1.seq hS
    have el : ((ns.map V.int).length) = ns.length := List.length_map _
    refine ⟨.list (ns.map PyData.int), .list [], .lst hS1 (dp_ints ns), .lst (SqL.of upd_same) .nil, shaped_ints ns, shaped_nil, _, rfl, ?_⟩
    rw [eqv_ints_nil]
    refine iteD (fun h0 => ?_) (fun h0 => ?_)
    · refine ⟨_, rfl, _, _, _, rfl, rfl, .inr ⟨by decide, by decide⟩, rfl, ?_⟩
      have e : Mir.cellI ns k = (k : Int) * 7919 := if_pos h0
      rw [e] at hQ
      exact hQ _ s1
    · have hp : 0 < ns.length := List.length_pos_iff.mpr h0
      have hm : k % ns.length < ns.length := Nat.mod_lt _ hp
      refine ⟨_, rfl, _, rfl, _, rfl, a, _, rfl, .inl hS1, _, _, ((k % ns.length : Nat) : Int), rfl, rfl, by omega, by show ((k % ns.length : Nat) : Int) = (k : Int) % ((ns.map V.int).length : Nat); rw [el]; omega, ?_⟩
      refine ⟨a, _, _, .int (ns.getD (k % ns.length) 0), rfl, rfl, hS1, atI_nat (by rw [List.getElem?_map, List.getElem?_eq_getElem hm, List.getD_eq_getElem?_getD, List.getElem?_eq_getElem hm]; rfl), ?_⟩
      refine ⟨_, rfl, _, rfl, a, _, rfl, .inl hS1, _, _, ((k / ns.length : Nat) : Int), rfl, rfl, ⟨by omega, by omega⟩, by show ((k / ns.length : Nat) : Int) = (k : Int) / ((ns.map V.int).length : Nat); rw [el]; omega, ?_⟩
      refine ⟨_, _, _, rfl, rfl, .inr ⟨by decide, by decide⟩, rfl, _, _, _, rfl, rfl, rfl, ?_⟩
      have e : Mir.cellI ns k = ns.getD (k % ns.length) 0 + ((k / ns.length : Nat) : Int) * 104729 := if_neg h0
      rw [e] at hQ
      exact hQ _ s1
/-! ### _law_drawn -/
def N__law_drawn : List Str := ["_law_cell_here", "_law_k", "_law_more"]
theorem sc__law_drawn : FnScope ["_law_cell_here", "_law_k", "_law_more"] ["_law_cell_here", "_law_k"] (defScope st__law_drawn) := ⟨rfl, rfl, rfl, by decide +kernel, rfl, by decide +kernel, by decide +kernel⟩
def spDrawn : Sp := fun vs H Q _ => ∃ (c : Int) (k : Nat), vs = [.int c, .int (k : Int)] ∧ Q (.int (Mir.drawn c k)) H
theorem sm_more (c : Int) (k : Nat) : Sm (Mir.moreI c k) := by
  have h := Mir.moreI_nn c k
  refine Sm.of ?_ ?_
  · have : (0 : Int) ≤ 2 ^ 199 := by decide
    omega
  · have : (340282366920938463463374607431768211507 : Int) ≤ 2 ^ 199 := by decide
    omega
theorem ok_drawn (d__law_drawn : Df K mg "_law_drawn" st__law_drawn ["_law_cell_here", "_law_k"]) : FnOk P w K mg base CX0 1 d__law_drawn.f d__law_drawn.fd ["_law_cell_here", "_law_k"] spDrawn := by
  refine d__law_drawn.F.ok sc__law_drawn (fun vs H Q E h => ?_) (fun cdv A outer s H vs Q E hr h => ?_)
  · obtain ⟨c, k, rfl, _⟩ := h
    rfl
  · obtain ⟨c, k, rfl, hQ⟩ := h
    have nd := sc__law_drawn.nd
    refine ⟨_, (pss_cons (ps_set (i := 2) nd rfl (Or.inl rfl) (pe_op op_modE (pe_op op_addE (pe_op op_mulE (pv 0) pe_int) (pe_op op_mulE (pe_op op_addE (pv 1) pe_int) pe_int)) pe_int))
  (pss_one (ps_ret (pe_op op_modE (pe_op op_mulB (pv 2) (pv 2)) pe_int)))), ?_⟩
    refine ⟨_, rfl, _, _, _, rfl, rfl, .inr ⟨by decide, by decide⟩, rfl, _, rfl, _, _, _, rfl, rfl, rfl, _, _, _, rfl, rfl, .inr ⟨by decide, by decide⟩, rfl, _, _, _, rfl, rfl, rfl, _, _, Mir.moreI c k, rfl, rfl, (by show (0 : Int) < 340282366920938463463374607431768211507; decide), rfl, ?_⟩
    refine ⟨_, rfl, _, rfl, _, _, _, rfl, rfl, ⟨sm_more c k, sm_more c k⟩, rfl, _, _, Mir.drawn c k, rfl, rfl, (by show (0 : Int) < 340282366920938463463374607431768211297; decide), rfl, hQ⟩
end
end Ord

namespace Ord
open PySem PySem.Spec PyProof.Rows L2 LamX
theorem eqI {i j : Int} : V.int i = V.int j ↔ i = j := ⟨fun h => V.int.inj h, fun h => by rw [h]⟩
theorem iteI {i j : Int} {A B : Prop} (h1 : i = j → A) (h2 : ¬ i = j → B) : if decide (V.int i = V.int j) = true then A else B := iteD (fun e => h1 (eqI.mp e)) fun e => h2 fun z => e (eqI.mpr z)
section
variable {P : Program} {w : World} {K : PySem.W.Frag} {mg : Str → Option Value} {base : Heap}
/-! ### _law_answer -/
def N__law_answer : List Str := ["_law_way", "_law_one", "_law_other", "_law_gap"]
theorem sc__law_answer : FnScope ["_law_way", "_law_one", "_law_other", "_law_gap"] ["_law_way", "_law_one", "_law_other"] (defScope st__law_answer) := ⟨rfl, rfl, rfl, by decide +kernel, rfl, by decide +kernel, by decide +kernel⟩
def spAnswer : Sp := fun vs H Q _ => ∃ (way : Int) (x y : V) (ex ey : Int × Int), vs = [.int way, x, y] ∧ Pr H x ex ∧ Pr H y ey ∧ Sn ex.1 ∧ Sn ey.1 ∧ Q (.int (Mir.ansI way ex ey)) H
theorem ok_answer (d__law_answer : Df K mg "_law_answer" st__law_answer ["_law_way", "_law_one", "_law_other"]) (mInt : mg "int" = none) (mAbs : mg "abs" = none) : FnOk P w K mg base CX0 1 d__law_answer.f d__law_answer.fd ["_law_way", "_law_one", "_law_other"] spAnswer := by
  refine d__law_answer.F.ok sc__law_answer (fun vs H Q E h => ?_) (fun cdv A outer s H vs Q E hr h => ?_)
  · obtain ⟨way, x, y, ex, ey, rfl, _⟩ := h
    rfl
  · obtain ⟨way, x, y, ex, ey, rfl, ⟨p, rfl, hp⟩, ⟨q, rfl, hq⟩, s1, s2, hQ⟩ := h
    have nd := sc__law_answer.nd
    refine ⟨_, (pss_cons (ps_set (i := 3) nd rfl (Or.inl rfl) (pe_op op_subE (pe_ix ix_tup (pv 1) pe_int (fun _ _ => rfl)) (pe_ix ix_tup (pv 2) pe_int (fun _ _ => rfl))))
  (pss_cons (ps_if (pt_cmpR op_eq (pv 0) pe_int (nomark _))
    (pss_one (ps_ret (pe_op op_subE pe_int (pv 3))))
    pss_nil)
  (pss_cons (ps_if (pt_cmpR op_eq (pv 0) pe_int (nomark _))
    (pss_one (ps_ret (pe_op op_subE (pe_op op_fdivE (pe_ix ix_tup (pv 1) pe_int (fun _ _ => rfl)) pe_int) (pe_op op_fdivE (pe_ix ix_tup (pv 2) pe_int (fun _ _ => rfl)) pe_int))))
    pss_nil)
  (pss_cons (ps_if (pt_cmpR op_eq (pv 0) pe_int (nomark _))
    (pss_one (ps_ret (pe_op op_mulE (pe_op op_subE (pe_callTy call_int1 (by rfl) mInt (by decide +kernel) (pa_cons (pe_cmpR op_gt (pv 3) pe_int (nomark _)) pa_nil)) (pe_callTy call_int1 (by rfl) mInt (by decide +kernel) (pa_cons (pe_cmpR op_lt (pv 3) pe_int (nomark _)) pa_nil))) (pe_op op_addE pe_int (pe_op op_modE (pe_callB call_abs (by rfl) mAbs (by decide +kernel) (pa_cons (pe_ix ix_tup (pv 1) pe_int (fun _ _ => rfl)) pa_nil)) pe_int)))))
    pss_nil)
  (pss_cons (ps_if (pt_cmpR op_eq (pv 0) pe_int (nomark _))
    (pss_one (ps_ret (pe_op op_mulB (pv 3) (pe_op op_pow pe_int pe_int))))
    pss_nil)
  (pss_cons (ps_if (pt_cmpR op_eq (pv 0) pe_int (nomark _))
    (pss_one (ps_ret (pe_op op_subE (pe_callB call_abs (by rfl) mAbs (by decide +kernel) (pa_cons (pe_op op_subE (pe_ix ix_tup (pv 1) pe_int (fun _ _ => rfl)) pe_int) pa_nil)) (pe_callB call_abs (by rfl) mAbs (by decide +kernel) (pa_cons (pe_op op_subE (pe_ix ix_tup (pv 2) pe_int (fun _ _ => rfl)) pe_int) pa_nil)))))
    pss_nil)
  (pss_one (ps_ret (pv 3))))))))), ?_⟩
    refine ⟨_, rfl, p, _, 0, _, rfl, rfl, SqT.of hp, rfl, _, rfl, q, _, 0, _, rfl, rfl, SqT.of hq, rfl, _, _, ex.1 - ey.1, rfl, rfl, rfl, ?_⟩
    refine ⟨_, rfl, rfl, _, rfl, iteI (fun h1 => ?_) (fun h1 => ?_)⟩
    · refine ⟨_, rfl, _, _, Mir.ansI way ex ey, rfl, rfl, by unfold Mir.ansI; rw [if_pos h1], hQ⟩
    refine ⟨_, rfl, rfl, _, rfl, iteI (fun h2 => ?_) (fun h2 => ?_)⟩
    · refine ⟨_, rfl, p, _, 0, _, rfl, rfl, SqT.of hp, rfl, _, _, _, rfl, rfl, ⟨by decide, by decide⟩, rfl, _, rfl, q, _, 0, _, rfl, rfl, SqT.of hq, rfl, _, _, _, rfl, rfl, ⟨by decide, by decide⟩, rfl, _, _, Mir.ansI way ex ey, rfl, rfl, by unfold Mir.ansI; rw [if_neg h1, if_pos h2], hQ⟩
    refine ⟨_, rfl, rfl, _, rfl, iteI (fun h3 => ?_) (fun h3 => ?_)⟩
    · refine ⟨_, rfl, _, _, rfl, rfl, .inr ⟨_, rfl, _, rfl, _, _, rfl, rfl, .inr ⟨_, rfl, _, _, Mir.b01 (decide (0 < ex.1 - ey.1)) - Mir.b01 (decide (ex.1 - ey.1 < 0)), rfl, rfl, rfl, _, rfl, p, _, 1, _, rfl, rfl, SqT.of hp, rfl, _, rfl, _, _, _, rfl, rfl, (by show (0 : Int) < 9; decide), rfl, _, _, _, rfl, rfl, rfl, _, _, Mir.ansI way ex ey, rfl, rfl, .inl ?_, ?_, hQ⟩⟩⟩
      · unfold Mir.b01
        constructor <;> split <;> split <;> decide
      · unfold Mir.ansI
        rw [if_neg h1, if_neg h2, if_pos h3]
    refine ⟨_, rfl, rfl, _, rfl, iteI (fun h4 => ?_) (fun h4 => ?_)⟩
    · refine ⟨_, rfl, _, _, rfl, rfl, ⟨by decide, by decide, by decide⟩, _, _, Mir.ansI way ex ey, rfl, rfl, ⟨s1.sub s2, by unfold Sm; decide⟩, ?_, hQ⟩
      unfold Mir.ansI
      rw [if_neg h1, if_neg h2, if_neg h3, if_pos h4]
      congr 1
    refine ⟨_, rfl, rfl, _, rfl, iteI (fun h5 => ?_) (fun h5 => ?_)⟩
    · refine ⟨_, rfl, p, _, 0, _, rfl, rfl, SqT.of hp, rfl, _, _, _, rfl, rfl, rfl, _, rfl, _, rfl, q, _, 0, _, rfl, rfl, SqT.of hq, rfl, _, _, _, rfl, rfl, rfl, _, rfl, _, _, Mir.ansI way ex ey, rfl, rfl, ?_, hQ⟩
      unfold Mir.ansI
      rw [if_neg h1, if_neg h2, if_neg h3, if_neg h4, if_pos h5]
    refine ⟨_, rfl, ?_⟩
    have e : Mir.ansI way ex ey = ex.1 - ey.1 := by
      unfold Mir.ansI
      rw [if_neg h1, if_neg h2, if_neg h3, if_neg h4, if_neg h5]
    rw [e] at hQ
    exact hQ
/-! ### _law_ask -/
def N__law_ask : List Str := ["_law_asked", "_law_way", "_law_one", "_law_other"]
theorem sc__law_ask : FnScope ["_law_asked", "_law_way", "_law_one", "_law_other"] ["_law_asked", "_law_way", "_law_one", "_law_other"] (defScope st__law_ask) := ⟨rfl, rfl, rfl, by decide +kernel, rfl, by decide +kernel, by decide +kernel⟩
def spAskK : Sp := fun vs H Q _ => ∃ (q : Addr) (way : Int) (x y : V) (ex ey : Int × Int) (ps : List V), vs = [.ref q, .int way, x, y] ∧ H q = some (.lst ps) ∧ ps.length < 1000000 ∧ Pr H x ex ∧ Pr H y ey ∧ Sn ex.1 ∧ Sn ey.1 ∧
  ∀ t, H t = none → Q (.int (Mir.ansI way ex ey)) (upd (upd H t (.tup [x, y])) q (.lst (ps ++ [.ref t])))
theorem ok_ask (d__law_ask : Df K mg "_law_ask" st__law_ask ["_law_asked", "_law_way", "_law_one", "_law_other"]) (d__law_answer : Df K mg "_law_answer" st__law_answer ["_law_way", "_law_one", "_law_other"]) (mInt : mg "int" = none) (mAbs : mg "abs" = none) : FnOk P w K mg base CX0 2 d__law_ask.f d__law_ask.fd ["_law_asked", "_law_way", "_law_one", "_law_other"] spAskK := by
  have G__law_answer : FnOk P w K mg base CX0 1 d__law_answer.f d__law_answer.fd ["_law_way", "_law_one", "_law_other"] spAnswer := ok_answer d__law_answer mInt mAbs
  refine d__law_ask.F.ok sc__law_ask (fun vs H Q E h => ?_) (fun cdv A outer s H vs Q E hr h => ?_)
  · obtain ⟨q, way, x, y, ex, ey, ps, rfl, _⟩ := h
    rfl
  · obtain ⟨q, way, x, y, ex, ey, ps, rfl, hq, hl, hx, hy, s1, s2, hQ⟩ := h
    have nd := sc__law_ask.nd
    refine ⟨_, (pss_cons (ps_expr (pe_bm PySem.F.plainAttrs_list PySem.F.slot_list_append PySem.F.type_list_append mt_append (pv 0) (pa_cons (pe_tup (pa_cons (pv 2) (pa_cons (pv 3) pa_nil))) pa_nil)))
  (pss_one (ps_ret (pe_cd (d := d__law_answer) G__law_answer (hr.mono (by omega)) (pa_cons (pv 1) (pa_cons (pv 2) (pa_cons (pv 3) pa_nil))))))), ?_⟩
    refine ⟨_, rfl, .inl ⟨rfl, _, SqL.of hq⟩, _, rfl, _, rfl, by show 2 ≤ sizeLine; decide, fun t ht => ?_⟩
    have hqt : q ≠ t := ne_of_none hq ht
    refine ⟨q, ps, _, rfl, rfl, (upd_ne hqt).trans hq, Nat.lt_of_lt_of_le hl (by decide), ?_⟩
    have k1 : TK H (upd (upd H t (.tup [x, y])) q (.lst (ps ++ [.ref t]))) := (TK.new ht).trans (TK.wr ((upd_ne hqt).trans hq) nf_lst)
    exact ⟨_, rfl, _, rfl, _, rfl, way, x, y, ex, ey, rfl, hx.tk k1, hy.tk k1, s1, s2, hQ t ht⟩
/-! ### _law_log -/
def N__law_log : List Str := ["_law_many", "_law_found"]
theorem sc__law_log : FnScope ["_law_many", "_law_found"] ["_law_many"] (defScope st__law_log) := ⟨rfl, rfl, rfl, by decide +kernel, rfl, by decide +kernel, by decide +kernel⟩
def spLog : Sp := fun vs H Q _ => ∃ (n : Nat), vs = [.int (n : Int)] ∧ n ≤ 1000000 ∧ Q (.int ((Mir.clog n : Nat) : Int)) H
theorem ok_log (d__law_log : Df K mg "_law_log" st__law_log ["_law_many"]) : FnOk P w K mg base CX0 1 d__law_log.f d__law_log.fd ["_law_many"] spLog := by
  refine d__law_log.F.ok sc__law_log (fun vs H Q E h => ?_) (fun cdv A outer s H vs Q E hr h => ?_)
  · obtain ⟨n, rfl, _⟩ := h
    rfl
  · obtain ⟨n, rfl, hn, hQ⟩ := h
    have nd := sc__law_log.nd
    refine ⟨_, (pss_cons (ps_set (i := 1) nd rfl (Or.inl rfl) pe_int)
  (pss_cons (ps_while PassesOwn.never (pt_cmpR op_lt (pe_op op_shl pe_int (pv 1)) (pv 0) (nomark _))
    (pss_one (ps_set (i := 1) nd rfl (Or.inl rfl) (pe_op op_addE (pv 1) pe_int))))
  (pss_one (ps_ret (pv 1))))), ?_⟩
    have hc := Mir.clog_le_self n
    refine ⟨fun m σ H' => ∃ i : Nat, σ = [some (.int (n : Int)), some (.int (i : Int))] ∧ H' = H ∧ i ≤ Mir.clog n ∧ m = Mir.clog n - i, ⟨_, 0, rfl, rfl, Nat.zero_le _, rfl⟩, ?_⟩
    rintro m σ H' ⟨i, rfl, rfl, hi, rfl⟩
    refine ⟨_, rfl, _, _, rfl, rfl, ⟨by omega, by omega, by decide⟩, _, rfl, _, _, rfl, rfl, _, rfl, ?_⟩
    have e : ((1 : Int) * 2 ^ (i : Int).toNat < (n : Int)) ↔ i < Mir.clog n := by
      rw [← Mir.clog_lt]
      rw [Int.toNat_natCast, Int.one_mul]
      norm_cast
    refine iteD (fun h => ?_) (fun h => ?_)
    · have hlt := e.mp h
      refine ⟨_, fun _ _ h => h, ?_⟩
      exact ⟨_, rfl, _, _, ((i + 1 : Nat) : Int), rfl, rfl, rfl, _, by omega, i + 1, rfl, rfl, by omega, rfl⟩
    · have hge : i = Mir.clog n := by
        have := fun z => h (e.mpr z)
        omega
      rw [← hge] at hQ
      exact ⟨_, rfl, hQ⟩
end
end Ord

/-! What the defs of yourorder.rows compute, over any answers. -/
namespace Mir
section
variable {α : Type}
abbrev Ans (α : Type) := List (α × α) → α → α → Int
def mrg (ans : Ans α) : List α → List α → List (α × α) → List α × List (α × α)
  | [], ys, l => (ys, l)
  | x :: xs, [], l => (x :: xs, l)
  | x :: xs, y :: ys, l =>
    if ans l x y ≤ 0 then (x :: (mrg ans xs (y :: ys) (l ++ [(x, y)])).1, (mrg ans xs (y :: ys) (l ++ [(x, y)])).2)
    else (y :: (mrg ans (x :: xs) ys (l ++ [(x, y)])).1, (mrg ans (x :: xs) ys (l ++ [(x, y)])).2)
termination_by xs ys => xs.length + ys.length
theorem mrg_nil (ans : Ans α) (ys : List α) (l : List (α × α)) : mrg ans [] ys l = (ys, l) := by unfold mrg; rfl
theorem mrg_nil2 (ans : Ans α) (xs : List α) (l : List (α × α)) : mrg ans xs [] l = (xs, l) := by
  cases xs with
  | nil => unfold mrg; rfl
  | cons x xs => unfold mrg; rfl
theorem mrg_cons (ans : Ans α) (x y : α) (xs ys : List α) (l : List (α × α)) : mrg ans (x :: xs) (y :: ys) l =
    if ans l x y ≤ 0 then (x :: (mrg ans xs (y :: ys) (l ++ [(x, y)])).1, (mrg ans xs (y :: ys) (l ++ [(x, y)])).2)
    else (y :: (mrg ans (x :: xs) ys (l ++ [(x, y)])).1, (mrg ans (x :: xs) ys (l ++ [(x, y)])).2) := by
  rw [mrg]
theorem drop_cons {xs : List α} {i : Nat} {x : α} (e : xs[i]? = some x) : xs.drop i = x :: xs.drop (i + 1) := by
  obtain ⟨h, e⟩ := List.getElem?_eq_some_iff.mp e
  rw [← e]
  exact List.drop_eq_getElem_cons h
/-- all but the last two questions' lengths: how long what is told is -/
theorem mrg_len (ans : Ans α) : ∀ (xs ys : List α) (l : List (α × α)), (mrg ans xs ys l).1.length = xs.length + ys.length
  | [], ys, l => by rw [mrg_nil]; simp
  | x :: xs, [], l => by rw [mrg_nil2]; simp
  | x :: xs, y :: ys, l => by
    have h1 := mrg_len ans xs (y :: ys) (l ++ [(x, y)])
    have h2 := mrg_len ans (x :: xs) ys (l ++ [(x, y)])
    rw [mrg_cons]
    split
    · simp only [List.length_cons] at h1 ⊢
      omega
    · simp only [List.length_cons] at h2 ⊢
      omega
termination_by xs ys => xs.length + ys.length
def stab (ans : Ans α) (xs : List α) (l : List (α × α)) : List α × List (α × α) :=
  if h : xs.length < 2 then (xs, l)
  else
    let a := stab ans (xs.take ((xs.length + 1) / 2)) l
    let b := stab ans (xs.drop ((xs.length + 1) / 2)) a.2
    match a.1.getLast?, b.1.head? with
    | some x, some y => if ans b.2 x y ≤ 0 then (a.1 ++ b.1, b.2 ++ [(x, y)]) else mrg ans a.1 b.1 (b.2 ++ [(x, y)])
    | _, _ => (a.1 ++ b.1, b.2)
termination_by xs.length
decreasing_by
  · rw [List.length_take]; omega
  · rw [List.length_drop]; omega
theorem mrg_mem (ans : Ans α) : ∀ (xs ys : List α) (l : List (α × α)) (z : α), z ∈ (mrg ans xs ys l).1 → z ∈ xs ∨ z ∈ ys
  | [], ys, l, z, h => by rw [mrg_nil] at h; exact .inr h
  | x :: xs, [], l, z, h => by rw [mrg_nil2] at h; exact .inl h
  | x :: xs, y :: ys, l, z, h => by
    have h1 := mrg_mem ans xs (y :: ys) (l ++ [(x, y)]) z
    have h2 := mrg_mem ans (x :: xs) ys (l ++ [(x, y)]) z
    rw [mrg_cons] at h
    split at h
    · rcases List.mem_cons.mp h with e | e
      · exact .inl (List.mem_cons.mpr (.inl e))
      · rcases h1 e with q | q
        · exact .inl (List.mem_cons_of_mem _ q)
        · exact .inr q
    · rcases List.mem_cons.mp h with e | e
      · exact .inr (List.mem_cons.mpr (.inl e))
      · rcases h2 e with q | q
        · exact .inl q
        · exact .inr (List.mem_cons_of_mem _ q)
termination_by xs ys => xs.length + ys.length
theorem stab_small (ans : Ans α) {xs : List α} (l : List (α × α)) (h : xs.length < 2) : stab ans xs l = (xs, l) := by
  rw [stab, dif_pos h]
theorem stab_big (ans : Ans α) {xs : List α} (l : List (α × α)) (h : ¬ xs.length < 2) : stab ans xs l =
    match (stab ans (xs.take ((xs.length + 1) / 2)) l).1.getLast?, (stab ans (xs.drop ((xs.length + 1) / 2)) (stab ans (xs.take ((xs.length + 1) / 2)) l).2).1.head? with
    | some x, some y => if ans (stab ans (xs.drop ((xs.length + 1) / 2)) (stab ans (xs.take ((xs.length + 1) / 2)) l).2).2 x y ≤ 0 then ((stab ans (xs.take ((xs.length + 1) / 2)) l).1 ++ (stab ans (xs.drop ((xs.length + 1) / 2)) (stab ans (xs.take ((xs.length + 1) / 2)) l).2).1, (stab ans (xs.drop ((xs.length + 1) / 2)) (stab ans (xs.take ((xs.length + 1) / 2)) l).2).2 ++ [(x, y)])
      else mrg ans (stab ans (xs.take ((xs.length + 1) / 2)) l).1 (stab ans (xs.drop ((xs.length + 1) / 2)) (stab ans (xs.take ((xs.length + 1) / 2)) l).2).1 ((stab ans (xs.drop ((xs.length + 1) / 2)) (stab ans (xs.take ((xs.length + 1) / 2)) l).2).2 ++ [(x, y)])
    | _, _ => ((stab ans (xs.take ((xs.length + 1) / 2)) l).1 ++ (stab ans (xs.drop ((xs.length + 1) / 2)) (stab ans (xs.take ((xs.length + 1) / 2)) l).2).1, (stab ans (xs.drop ((xs.length + 1) / 2)) (stab ans (xs.take ((xs.length + 1) / 2)) l).2).2) := by
  rw [stab, dif_neg h]
/-- the step by what the halves give -/
theorem stab_step (ans : Ans α) {xs : List α} (l : List (α × α)) (h : ¬ xs.length < 2) {a b : List α × List (α × α)} (ea : stab ans (xs.take ((xs.length + 1) / 2)) l = a) (eb : stab ans (xs.drop ((xs.length + 1) / 2)) a.2 = b) {x y : α} (ex : a.1.getLast? = some x) (ey : b.1.head? = some y) :
    stab ans xs l = if ans b.2 x y ≤ 0 then (a.1 ++ b.1, b.2 ++ [(x, y)]) else mrg ans a.1 b.1 (b.2 ++ [(x, y)]) := by
  rw [stab_big ans l h, ea, eb, ex, ey]
theorem stab_len (ans : Ans α) (n : Nat) : ∀ (xs : List α) (l : List (α × α)), xs.length ≤ n → (stab ans xs l).1.length = xs.length := by
  induction n with
  | zero => intro xs l h; rw [stab_small ans l (by omega)]
  | succ n ih =>
    intro xs l h
    by_cases h2 : xs.length < 2
    · rw [stab_small ans l h2]
    · have t1 : (xs.take ((xs.length + 1) / 2)).length = (xs.length + 1) / 2 := by rw [List.length_take]; omega
      have t2 : (xs.drop ((xs.length + 1) / 2)).length = xs.length - (xs.length + 1) / 2 := List.length_drop
      have i1 := ih (xs.take ((xs.length + 1) / 2)) l (by omega)
      have i2 := ih (xs.drop ((xs.length + 1) / 2)) (stab ans (xs.take ((xs.length + 1) / 2)) l).2 (by omega)
      obtain ⟨x, ex⟩ : ∃ x, (stab ans (xs.take ((xs.length + 1) / 2)) l).1.getLast? = some x := by
        rw [List.getLast?_eq_getElem?]
        exact ⟨_, List.getElem?_eq_getElem (by omega)⟩
      obtain ⟨y, ey⟩ : ∃ y, (stab ans (xs.drop ((xs.length + 1) / 2)) (stab ans (xs.take ((xs.length + 1) / 2)) l).2).1.head? = some y := by
        rw [List.head?_eq_getElem?]
        exact ⟨_, List.getElem?_eq_getElem (by omega)⟩
      rw [stab_step ans l h2 rfl rfl ex ey]
      split
      · rw [List.length_append]; omega
      · rw [mrg_len]; omega
theorem stab_mem (ans : Ans α) (n : Nat) : ∀ (xs : List α) (l : List (α × α)) (z : α), xs.length ≤ n → z ∈ (stab ans xs l).1 → z ∈ xs := by
  induction n with
  | zero => intro xs l z h hz; rw [stab_small ans l (by omega)] at hz; exact hz
  | succ n ih =>
    intro xs l z h hz
    by_cases h2 : xs.length < 2
    · rw [stab_small ans l h2] at hz; exact hz
    · have t1 : (xs.take ((xs.length + 1) / 2)).length = (xs.length + 1) / 2 := by rw [List.length_take]; omega
      have t2 : (xs.drop ((xs.length + 1) / 2)).length = xs.length - (xs.length + 1) / 2 := List.length_drop
      have l1 := stab_len ans n (xs.take ((xs.length + 1) / 2)) l (by omega)
      have l2 := stab_len ans n (xs.drop ((xs.length + 1) / 2)) (stab ans (xs.take ((xs.length + 1) / 2)) l).2 (by omega)
      have i1 := ih (xs.take ((xs.length + 1) / 2)) l z (by omega)
      have i2 := ih (xs.drop ((xs.length + 1) / 2)) (stab ans (xs.take ((xs.length + 1) / 2)) l).2 z (by omega)
      have key : z ∈ (stab ans (xs.take ((xs.length + 1) / 2)) l).1 ∨ z ∈ (stab ans (xs.drop ((xs.length + 1) / 2)) (stab ans (xs.take ((xs.length + 1) / 2)) l).2).1 → z ∈ xs := fun q => q.elim (fun q => List.mem_of_mem_take (i1 q)) fun q => List.mem_of_mem_drop (i2 q)
      obtain ⟨x, ex⟩ : ∃ x, (stab ans (xs.take ((xs.length + 1) / 2)) l).1.getLast? = some x := by
        rw [List.getLast?_eq_getElem?]
        exact ⟨_, List.getElem?_eq_getElem (by omega)⟩
      obtain ⟨y, ey⟩ : ∃ y, (stab ans (xs.drop ((xs.length + 1) / 2)) (stab ans (xs.take ((xs.length + 1) / 2)) l).2).1.head? = some y := by
        rw [List.head?_eq_getElem?]
        exact ⟨_, List.getElem?_eq_getElem (by omega)⟩
      rw [stab_step ans l h2 rfl rfl ex ey] at hz
      split at hz
      · exact key (List.mem_append.mp hz)
      · exact key (mrg_mem ans _ _ _ z hz)
theorem mrg_cnt (ans : Ans α) : ∀ (xs ys : List α) (l : List (α × α)), l.length ≤ (mrg ans xs ys l).2.length ∧ (mrg ans xs ys l).2.length ≤ l.length + (xs.length + ys.length - 1) ∧ ((xs = [] ∨ ys = []) → (mrg ans xs ys l).2 = l)
  | [], ys, l => by rw [mrg_nil]; exact ⟨Nat.le_refl _, Nat.le_add_right _ _, fun _ => rfl⟩
  | x :: xs, [], l => by rw [mrg_nil2]; exact ⟨Nat.le_refl _, Nat.le_add_right _ _, fun _ => rfl⟩
  | x :: xs, y :: ys, l => by
    have h1 := mrg_cnt ans xs (y :: ys) (l ++ [(x, y)])
    have h2 := mrg_cnt ans (x :: xs) ys (l ++ [(x, y)])
    rw [mrg_cons]
    split
    · simp only [List.length_append, List.length_cons, List.length_nil] at h1 ⊢
      refine ⟨by omega, by omega, fun h => ?_⟩
      rcases h with h | h <;> cases h
    · simp only [List.length_append, List.length_cons, List.length_nil] at h2 ⊢
      refine ⟨by omega, by omega, fun h => ?_⟩
      rcases h with h | h <;> cases h
termination_by xs ys => xs.length + ys.length
theorem clog_half {n : Nat} (h : ¬ n < 2) : clog n = clog ((n + 1) / 2) + 1 := by
  rw [clog, if_neg (by omega)]
theorem stab_cnt (ans : Ans α) (n : Nat) : ∀ (xs : List α) (l : List (α × α)), xs.length ≤ n → l.length ≤ (stab ans xs l).2.length ∧ (stab ans xs l).2.length ≤ l.length + xs.length * clog xs.length := by
  induction n with
  | zero => intro xs l h; rw [stab_small ans l (by omega)]; exact ⟨Nat.le_refl _, Nat.le_add_right _ _⟩
  | succ n ih =>
    intro xs l h
    by_cases h2 : xs.length < 2
    · rw [stab_small ans l h2]; exact ⟨Nat.le_refl _, Nat.le_add_right _ _⟩
    · have t1 : (xs.take ((xs.length + 1) / 2)).length = (xs.length + 1) / 2 := by rw [List.length_take]; omega
      have t2 : (xs.drop ((xs.length + 1) / 2)).length = xs.length - (xs.length + 1) / 2 := List.length_drop
      have i1 := ih (xs.take ((xs.length + 1) / 2)) l (by omega)
      have i2 := ih (xs.drop ((xs.length + 1) / 2)) (stab ans (xs.take ((xs.length + 1) / 2)) l).2 (by omega)
      have l1 := stab_len ans n (xs.take ((xs.length + 1) / 2)) l (by omega)
      have l2 := stab_len ans n (xs.drop ((xs.length + 1) / 2)) (stab ans (xs.take ((xs.length + 1) / 2)) l).2 (by omega)
      rw [t1] at i1 l1
      rw [t2] at i2 l2
      obtain ⟨c, ec⟩ : ∃ c, c = clog ((xs.length + 1) / 2) := ⟨_, rfl⟩
      have m2 : clog (xs.length - (xs.length + 1) / 2) ≤ c := by rw [ec]; exact clog_mono (by omega)
      have m3 := Nat.mul_le_mul_left (xs.length - (xs.length + 1) / 2) m2
      have m4 : (xs.length + 1) / 2 * c + (xs.length - (xs.length + 1) / 2) * c = xs.length * c := by
        rw [← Nat.add_mul]
        congr 1
        omega
      have m5 : xs.length * (c + 1) = xs.length * c + xs.length := Nat.mul_succ _ _
      rw [clog_half h2, ← ec, m5]
      rw [← ec] at i1
      obtain ⟨x, ex⟩ : ∃ x, (stab ans (xs.take ((xs.length + 1) / 2)) l).1.getLast? = some x := by
        rw [List.getLast?_eq_getElem?]
        exact ⟨_, List.getElem?_eq_getElem (by omega)⟩
      obtain ⟨y, ey⟩ : ∃ y, (stab ans (xs.drop ((xs.length + 1) / 2)) (stab ans (xs.take ((xs.length + 1) / 2)) l).2).1.head? = some y := by
        rw [List.head?_eq_getElem?]
        exact ⟨_, List.getElem?_eq_getElem (by omega)⟩
      rw [stab_step ans l h2 rfl rfl ex ey]
      split
      · rw [List.length_append, List.length_singleton]
        omega
      · have q := mrg_cnt ans (stab ans (xs.take ((xs.length + 1) / 2)) l).1 (stab ans (xs.drop ((xs.length + 1) / 2)) (stab ans (xs.take ((xs.length + 1) / 2)) l).2).1 ((stab ans (xs.drop ((xs.length + 1) / 2)) (stab ans (xs.take ((xs.length + 1) / 2)) l).2).2 ++ [(x, y)])
        rw [l1, l2, List.length_append, List.length_singleton] at q
        omega
end
end Mir

/-! Sorting by a key: what stands in the stable order. -/
namespace Mir
section
variable {α : Type}
/-- in order by a key -/
abbrev Srt (key : α → Int) (xs : List α) : Prop := xs.Pairwise fun a b => key a ≤ key b
/-- those of a key -/
def ofK (key : α → Int) (k : Int) (xs : List α) : List α := xs.filter fun x => decide (key x = k)
theorem ofK_nil (key : α → Int) (k : Int) : ofK key k ([] : List α) = [] := rfl
theorem ofK_cons (key : α → Int) (k : Int) (x : α) (xs : List α) : ofK key k (x :: xs) = if key x = k then x :: ofK key k xs else ofK key k xs := by
  unfold ofK
  rw [List.filter_cons]
  by_cases h : key x = k
  · simp [h]
  · simp [h]
theorem ofK_append (key : α → Int) (k : Int) (xs ys : List α) : ofK key k (xs ++ ys) = ofK key k xs ++ ofK key k ys := by unfold ofK; exact List.filter_append _ _
theorem ofK_none {key : α → Int} {k : Int} {xs : List α} (h : ∀ x ∈ xs, key x ≠ k) : ofK key k xs = [] := by
  unfold ofK
  rw [List.filter_eq_nil_iff]
  intro x hx
  simp [h x hx]
theorem sort_uniq (key : α → Int) : ∀ (xs ys : List α), Srt key xs → Srt key ys → (∀ k, ofK key k xs = ofK key k ys) → xs = ys
  | [], [], _, _, _ => rfl
  | [], y :: ys, _, _, h => by
    have e := h (key y)
    rw [ofK_nil, ofK_cons, if_pos rfl] at e
    cases e
  | x :: xs, [], _, _, h => by
    have e := h (key x)
    rw [ofK_nil, ofK_cons, if_pos rfl] at e
    cases e
  | x :: xs, y :: ys, hx, hy, h => by
    obtain ⟨x1, x2⟩ := List.pairwise_cons.mp hx
    obtain ⟨y1, y2⟩ := List.pairwise_cons.mp hy
    have hk : key x = key y := by
      rcases Int.lt_trichotomy (key x) (key y) with c | c | c
      · have e := h (key x)
        rw [ofK_cons, if_pos rfl, ofK_none (xs := y :: ys) (fun z hz => by
          rcases List.mem_cons.mp hz with q | q
          · rw [q]; omega
          · have := y1 z q; omega)] at e
        cases e
      · exact c
      · have e := h (key y)
        rw [ofK_cons key _ y, if_pos rfl, ofK_none (xs := x :: xs) (fun z hz => by
          rcases List.mem_cons.mp hz with q | q
          · rw [q]; omega
          · have := x1 z q; omega)] at e
        cases e
    have e := h (key x)
    rw [ofK_cons, ofK_cons, if_pos rfl, if_pos hk.symm] at e
    injection e with e1 e2
    subst e1
    rw [sort_uniq key xs ys x2 y2 fun k => ?_]
    have e := h k
    rw [ofK_cons, ofK_cons] at e
    by_cases q : key x = k
    · rw [if_pos q, if_pos q] at e
      injection e
    · rw [if_neg q, if_neg q] at e
      exact e
variable {ans : Ans α} {key : α → Int}
theorem mrg_srt (A : KeyA ans key) : ∀ (xs ys : List α) (l : List (α × α)), Srt key xs → Srt key ys → Srt key (mrg ans xs ys l).1 ∧ ∀ k, ofK key k (mrg ans xs ys l).1 = ofK key k xs ++ ofK key k ys
  | [], ys, l, hx, hy => by rw [mrg_nil]; exact ⟨hy, fun k => rfl⟩
  | x :: xs, [], l, hx, hy => by rw [mrg_nil2]; exact ⟨hx, fun k => (List.append_nil _).symm⟩
  | x :: xs, y :: ys, l, hx, hy => by
    obtain ⟨x1, x2⟩ := List.pairwise_cons.mp hx
    obtain ⟨y1, y2⟩ := List.pairwise_cons.mp hy
    rw [mrg_cons]
    split
    · rename_i q
      have q := (A.le _ _ _).mp q
      obtain ⟨i1, i2⟩ := mrg_srt A xs (y :: ys) (l ++ [(x, y)]) x2 hy
      refine ⟨List.pairwise_cons.mpr ⟨fun z hz => ?_, i1⟩, fun k => ?_⟩
      · rcases mrg_mem ans _ _ _ z hz with m | m
        · exact x1 z m
        · rcases List.mem_cons.mp m with m | m
          · rw [m]; exact q
          · have := y1 z m; omega
      · show ofK key k (x :: _) = _
        rw [ofK_cons, ofK_cons, i2 k]
        split <;> rfl
    · rename_i q
      have q : key y < key x := by
        have := A.le l x y
        omega
      obtain ⟨i1, i2⟩ := mrg_srt A (x :: xs) ys (l ++ [(x, y)]) hx y2
      refine ⟨List.pairwise_cons.mpr ⟨fun z hz => ?_, i1⟩, fun k => ?_⟩
      · rcases mrg_mem ans _ _ _ z hz with m | m
        · rcases List.mem_cons.mp m with m | m
          · rw [m]; omega
          · have := x1 z m; omega
        · exact y1 z m
      · show ofK key k (y :: _) = _
        rw [ofK_cons, i2 k, ofK_cons key k y ys]
        split
        · rename_i e
          rw [ofK_none (xs := x :: xs) (fun z hz => by
            rcases List.mem_cons.mp hz with m | m
            · rw [m]; omega
            · have := x1 z m; omega)]
          rfl
        · rfl
termination_by xs ys => xs.length + ys.length
theorem srt_append {xs ys : List α} {x y : α} (hx : Srt key xs) (hy : Srt key ys) (ex : xs.getLast? = some x) (ey : ys.head? = some y) (h : key x ≤ key y) : Srt key (xs ++ ys) := by
  refine List.pairwise_append.mpr ⟨hx, hy, fun a ha b hb => ?_⟩
  obtain ⟨r, er⟩ := List.getLast?_eq_some_iff.mp ex
  have h1 : key a ≤ key x := by
    rw [er] at ha hx
    rcases List.mem_append.mp ha with m | m
    · exact (List.pairwise_append.mp hx).2.2 a m x (List.mem_singleton.mpr rfl)
    · rw [List.mem_singleton.mp m]; omega
  have h2 : key y ≤ key b := by
    cases ys with
    | nil => cases hb
    | cons z zs =>
      have : z = y := Option.some.inj ey
      subst this
      rcases List.mem_cons.mp hb with m | m
      · rw [m]; omega
      · exact (List.pairwise_cons.mp hy).1 b m
  omega
theorem stab_srt (A : KeyA ans key) (n : Nat) : ∀ (xs : List α) (l : List (α × α)), xs.length ≤ n → Srt key (stab ans xs l).1 ∧ ∀ k, ofK key k (stab ans xs l).1 = ofK key k xs := by
  induction n with
  | zero =>
    intro xs l h
    have e : xs = [] := List.length_eq_zero_iff.mp (by omega)
    subst e
    rw [stab_small ans l (by simp)]
    exact ⟨List.Pairwise.nil, fun k => rfl⟩
  | succ n ih =>
    intro xs l h
    by_cases h2 : xs.length < 2
    · rw [stab_small ans l h2]
      refine ⟨?_, fun k => rfl⟩
      cases xs with
      | nil => exact List.Pairwise.nil
      | cons x r =>
        cases r with
        | nil => exact List.pairwise_singleton _ _
        | cons y s => exact absurd h2 (by simp)
    · have t1 : (xs.take ((xs.length + 1) / 2)).length = (xs.length + 1) / 2 := by rw [List.length_take]; omega
      have t2 : (xs.drop ((xs.length + 1) / 2)).length = xs.length - (xs.length + 1) / 2 := List.length_drop
      obtain ⟨i1, i2⟩ := ih (xs.take ((xs.length + 1) / 2)) l (by omega)
      obtain ⟨j1, j2⟩ := ih (xs.drop ((xs.length + 1) / 2)) (stab ans (xs.take ((xs.length + 1) / 2)) l).2 (by omega)
      have l1 := stab_len ans n (xs.take ((xs.length + 1) / 2)) l (by omega)
      have l2 := stab_len ans n (xs.drop ((xs.length + 1) / 2)) (stab ans (xs.take ((xs.length + 1) / 2)) l).2 (by omega)
      have both : ∀ k, ofK key k (xs.take ((xs.length + 1) / 2)) ++ ofK key k (xs.drop ((xs.length + 1) / 2)) = ofK key k xs := fun k => by
        rw [← ofK_append, List.take_append_drop]
      obtain ⟨x, ex⟩ : ∃ x, (stab ans (xs.take ((xs.length + 1) / 2)) l).1.getLast? = some x := by
        rw [List.getLast?_eq_getElem?]
        exact ⟨_, List.getElem?_eq_getElem (by omega)⟩
      obtain ⟨y, ey⟩ : ∃ y, (stab ans (xs.drop ((xs.length + 1) / 2)) (stab ans (xs.take ((xs.length + 1) / 2)) l).2).1.head? = some y := by
        rw [List.head?_eq_getElem?]
        exact ⟨_, List.getElem?_eq_getElem (by omega)⟩
      rw [stab_step ans l h2 rfl rfl ex ey]
      split
      · rename_i q
        refine ⟨srt_append i1 j1 ex ey ((A.le _ _ _).mp q), fun k => ?_⟩
        show ofK key k (_ ++ _) = _
        rw [ofK_append, i2, j2, both]
      · obtain ⟨m1, m2⟩ := mrg_srt A _ _ ((stab ans (xs.drop ((xs.length + 1) / 2)) (stab ans (xs.take ((xs.length + 1) / 2)) l).2).2 ++ [(x, y)]) i1 j1
        exact ⟨m1, fun k => by rw [m2, i2, j2, both]⟩
/-! ### insertion -/
theorem plc_spec (key : α → Int) (made : List α) (e : α) : ∀ n, n ≤ made.length → (∀ j z, plc key made e n ≤ j → j < n → made[j]? = some z → key e < key z) ∧ (0 < plc key made e n → ∃ z, made[plc key made e n - 1]? = some z ∧ key z ≤ key e)
  | 0, _ => ⟨fun j z _ h => absurd h (Nat.not_lt_zero j), fun h => by rw [plc_zero] at h; omega⟩
  | n + 1, h => by
    obtain ⟨i1, i2⟩ := plc_spec key made e n (by omega)
    obtain ⟨z, hz⟩ : ∃ z, made[n]? = some z := ⟨_, List.getElem?_eq_getElem (by omega)⟩
    by_cases q : key e < key z
    · rw [plc_lt hz q]
      refine ⟨fun j z' h1 h2 h3 => ?_, i2⟩
      by_cases hj : j < n
      · exact i1 j z' h1 hj h3
      · have : j = n := by omega
        subst this
        rw [hz] at h3
        cases h3
        exact q
    · rw [plc_ge hz q]
      exact ⟨fun j z' h1 h2 _ => by omega, fun _ => ⟨z, hz, by omega⟩⟩
theorem srt_get {xs : List α} (h : Srt key xs) {i j : Nat} {x y : α} (hij : i ≤ j) (ex : xs[i]? = some x) (ey : xs[j]? = some y) : key x ≤ key y := by
  obtain ⟨h1, e1⟩ := List.getElem?_eq_some_iff.mp ex
  obtain ⟨h2, e2⟩ := List.getElem?_eq_some_iff.mp ey
  by_cases q : i = j
  · subst q
    rw [e1] at e2
    rw [e2]
    omega
  · have := List.pairwise_iff_getElem.mp h i j h1 h2 (by omega)
    rw [e1, e2] at this
    exact this
theorem ins1_srt {made : List α} (e : α) (h : Srt key made) : Srt key (ins1 key made e) ∧ ∀ k, ofK key k (ins1 key made e) = ofK key k made ++ ofK key k [e] := by
  obtain ⟨s1, s2⟩ := plc_spec key made e made.length (Nat.le_refl _)
  have hp := plc_le key made e made.length
  obtain ⟨p, ep⟩ : ∃ p, p = plc key made e made.length := ⟨_, rfl⟩
  rw [← ep] at s1 s2 hp
  have lo : ∀ z ∈ made.take p, key z ≤ key e := fun z hz => by
    obtain ⟨i, hi⟩ := List.mem_iff_getElem?.mp hz
    have hip : i < p := by
      have := (List.getElem?_eq_some_iff.mp hi).1
      rw [List.length_take] at this
      omega
    rw [List.getElem?_take_of_lt hip] at hi
    obtain ⟨y, hy, hy2⟩ := s2 (by omega)
    have := srt_get h (show i ≤ p - 1 by omega) hi hy
    omega
  have hi : ∀ z ∈ made.drop p, key e < key z := fun z hz => by
    obtain ⟨i, hi⟩ := List.mem_iff_getElem?.mp hz
    rw [List.getElem?_drop] at hi
    exact s1 (p + i) z (by omega) (List.getElem?_eq_some_iff.mp hi).1 hi
  have ht : Srt key (made.take p) := h.sublist (List.take_sublist _ _)
  have hd : Srt key (made.drop p) := h.sublist (List.drop_sublist _ _)
  have hc : ∀ a ∈ made.take p, ∀ b ∈ made.drop p, key a ≤ key b := fun a ha b hb => by
    have := lo a ha
    have := hi b hb
    omega
  unfold ins1
  rw [← ep]
  refine ⟨?_, fun k => ?_⟩
  · refine List.pairwise_append.mpr ⟨List.pairwise_append.mpr ⟨ht, List.pairwise_singleton _ _, fun a ha b hb => ?_⟩, hd, fun a ha b hb => ?_⟩
    · rw [List.mem_singleton.mp hb]
      exact lo a ha
    · rcases List.mem_append.mp ha with m | m
      · exact hc a m b hb
      · rw [List.mem_singleton.mp m]
        have := hi b hb
        omega
  · rw [ofK_append, ofK_append]
    have e1 : ofK key k made = ofK key k (made.take p) ++ ofK key k (made.drop p) := by rw [← ofK_append, List.take_append_drop]
    rw [e1, List.append_assoc, List.append_assoc]
    congr 1
    by_cases q : key e = k
    · rw [ofK_none (xs := made.drop p) fun z hz => by have := hi z hz; omega]
      simp
    · rw [ofK_none (xs := [e]) fun z hz => by rw [List.mem_singleton.mp hz]; exact q]
      simp
theorem isort_srt (key : α → Int) (xs : List α) : Srt key (isort key xs) ∧ ∀ k, ofK key k (isort key xs) = ofK key k xs := by
  have : ∀ (ys acc : List α), Srt key acc → Srt key (ys.foldl (ins1 key) acc) ∧ ∀ k, ofK key k (ys.foldl (ins1 key) acc) = ofK key k acc ++ ofK key k ys := by
    intro ys
    induction ys with
    | nil => intro acc h; exact ⟨h, fun k => (List.append_nil _).symm⟩
    | cons y ys ih =>
      intro acc h
      obtain ⟨i1, i2⟩ := ins1_srt y h
      obtain ⟨j1, j2⟩ := ih _ i1
      rw [List.foldl_cons]
      refine ⟨j1, fun k => ?_⟩
      rw [j2, i2, List.append_assoc, ← ofK_append]
      rfl
  exact this xs [] List.Pairwise.nil
theorem isort_id {xs : List α} (h : Srt key xs) : isort key xs = xs := sort_uniq key _ _ (isort_srt key xs).1 h (isort_srt key xs).2
theorem isort_eq {xs ys : List α} (h : Srt key ys) (hk : ∀ k, ofK key k ys = ofK key k xs) : ys = isort key xs := sort_uniq key _ _ h (isort_srt key xs).1 fun k => by rw [hk, (isort_srt key xs).2]
/-- STABLE tells the stable order -/
theorem stab_isort (A : KeyA ans key) (xs : List α) (l : List (α × α)) : (stab ans xs l).1 = isort key xs := by
  obtain ⟨h1, h2⟩ := stab_srt A _ xs l (Nat.le_refl _)
  exact isort_eq h1 h2
/-- of a row in order: n - 1 questions at most -/
theorem stab_cnt_srt (A : KeyA ans key) (n : Nat) : ∀ (xs : List α) (l : List (α × α)), xs.length ≤ n → Srt key xs → (stab ans xs l).2.length ≤ l.length + (xs.length - 1) := by
  induction n with
  | zero => intro xs l h _; rw [stab_small ans l (by omega)]; exact Nat.le_add_right _ _
  | succ n ih =>
    intro xs l h hs
    by_cases h2 : xs.length < 2
    · rw [stab_small ans l h2]; exact Nat.le_add_right _ _
    · have t1 : (xs.take ((xs.length + 1) / 2)).length = (xs.length + 1) / 2 := by rw [List.length_take]; omega
      have t2 : (xs.drop ((xs.length + 1) / 2)).length = xs.length - (xs.length + 1) / 2 := List.length_drop
      have hs1 : Srt key (xs.take ((xs.length + 1) / 2)) := hs.sublist (List.take_sublist _ _)
      have hs2 : Srt key (xs.drop ((xs.length + 1) / 2)) := hs.sublist (List.drop_sublist _ _)
      have i1 := ih (xs.take ((xs.length + 1) / 2)) l (by omega) hs1
      have i2 := ih (xs.drop ((xs.length + 1) / 2)) (stab ans (xs.take ((xs.length + 1) / 2)) l).2 (by omega) hs2
      have e1 : (stab ans (xs.take ((xs.length + 1) / 2)) l).1 = xs.take ((xs.length + 1) / 2) := by rw [stab_isort A, isort_id hs1]
      have e2 : (stab ans (xs.drop ((xs.length + 1) / 2)) (stab ans (xs.take ((xs.length + 1) / 2)) l).2).1 = xs.drop ((xs.length + 1) / 2) := by rw [stab_isort A, isort_id hs2]
      obtain ⟨x, ex⟩ : ∃ x, (xs.take ((xs.length + 1) / 2)).getLast? = some x := by
        rw [List.getLast?_eq_getElem?]
        exact ⟨_, List.getElem?_eq_getElem (by omega)⟩
      obtain ⟨y, ey⟩ : ∃ y, (xs.drop ((xs.length + 1) / 2)).head? = some y := by
        rw [List.head?_eq_getElem?]
        exact ⟨_, List.getElem?_eq_getElem (by omega)⟩
      have hxy : key x ≤ key y := by
        have mx : x ∈ xs.take ((xs.length + 1) / 2) := List.mem_of_getLast? ex
        have my : y ∈ xs.drop ((xs.length + 1) / 2) := by
          rw [List.head?_eq_getElem?] at ey
          exact List.mem_of_getElem? ey
        have hs' := hs
        rw [← List.take_append_drop ((xs.length + 1) / 2) xs] at hs'
        exact (List.pairwise_append.mp hs').2.2 x mx y my
      rw [stab_step ans l h2 rfl rfl (by rw [e1]; exact ex) (by rw [e2]; exact ey), if_pos ((A.le _ _ _).mpr hxy), List.length_append, List.length_singleton]
      rw [t1] at i1
      rw [t2] at i2
      omega
/-! ### what is asked of -/
/-- the log grew by questions of P -/
def Grew (P : α × α → Prop) (l l' : List (α × α)) : Prop := ∃ m, l' = l ++ m ∧ ∀ z ∈ m, P z
theorem Grew.refl (P : α × α → Prop) (l : List (α × α)) : Grew P l l := ⟨[], (List.append_nil _).symm, fun z h => by cases h⟩
theorem Grew.trans {P : α × α → Prop} {l l1 l2 : List (α × α)} (a : Grew P l l1) (b : Grew P l1 l2) : Grew P l l2 := by
  obtain ⟨m, e, h⟩ := a
  obtain ⟨n, f, g⟩ := b
  refine ⟨m ++ n, by rw [f, e, List.append_assoc], fun z hz => ?_⟩
  rcases List.mem_append.mp hz with q | q
  · exact h z q
  · exact g z q
theorem Grew.mono {P Q : α × α → Prop} {l l' : List (α × α)} (a : Grew P l l') (h : ∀ z, P z → Q z) : Grew Q l l' := by
  obtain ⟨m, e, g⟩ := a
  exact ⟨m, e, fun z hz => h z (g z hz)⟩
theorem Grew.one {P : α × α → Prop} {l : List (α × α)} {z : α × α} (h : P z) : Grew P l (l ++ [z]) := ⟨[z], rfl, fun y hy => by rw [List.mem_singleton.mp hy]; exact h⟩
theorem Grew.of_nil {P : α × α → Prop} {l : List (α × α)} (a : Grew P [] l) : ∀ z ∈ l, P z := by
  obtain ⟨m, e, h⟩ := a
  rw [e]
  simpa using h
theorem mrg_grew (ans : Ans α) : ∀ (xs ys : List α) (l : List (α × α)), Grew (fun z => z.1 ∈ xs ∧ z.2 ∈ ys) l (mrg ans xs ys l).2
  | [], ys, l => by rw [mrg_nil]; exact .refl _ _
  | x :: xs, [], l => by rw [mrg_nil2]; exact .refl _ _
  | x :: xs, y :: ys, l => by
    have h1 := mrg_grew ans xs (y :: ys) (l ++ [(x, y)])
    have h2 := mrg_grew ans (x :: xs) ys (l ++ [(x, y)])
    rw [mrg_cons]
    split
    · exact (Grew.one ⟨List.mem_cons_self, List.mem_cons_self⟩).trans (h1.mono fun z h => ⟨List.mem_cons_of_mem _ h.1, h.2⟩)
    · exact (Grew.one ⟨List.mem_cons_self, List.mem_cons_self⟩).trans (h2.mono fun z h => ⟨h.1, List.mem_cons_of_mem _ h.2⟩)
termination_by xs ys => xs.length + ys.length
theorem stab_grew (ans : Ans α) (n : Nat) : ∀ (xs : List α) (l : List (α × α)), xs.length ≤ n → Grew (fun z => z.1 ∈ xs ∧ z.2 ∈ xs) l (stab ans xs l).2 := by
  induction n with
  | zero => intro xs l h; rw [stab_small ans l (by omega)]; exact .refl _ _
  | succ n ih =>
    intro xs l h
    by_cases h2 : xs.length < 2
    · rw [stab_small ans l h2]; exact .refl _ _
    · have t1 : (xs.take ((xs.length + 1) / 2)).length = (xs.length + 1) / 2 := by rw [List.length_take]; omega
      have t2 : (xs.drop ((xs.length + 1) / 2)).length = xs.length - (xs.length + 1) / 2 := List.length_drop
      have i1 := ih (xs.take ((xs.length + 1) / 2)) l (by omega)
      have i2 := ih (xs.drop ((xs.length + 1) / 2)) (stab ans (xs.take ((xs.length + 1) / 2)) l).2 (by omega)
      have l1 := stab_len ans n (xs.take ((xs.length + 1) / 2)) l (by omega)
      have l2 := stab_len ans n (xs.drop ((xs.length + 1) / 2)) (stab ans (xs.take ((xs.length + 1) / 2)) l).2 (by omega)
      have m1 : ∀ z, z ∈ (stab ans (xs.take ((xs.length + 1) / 2)) l).1 → z ∈ xs := fun z hz => List.mem_of_mem_take (stab_mem ans _ _ _ z (Nat.le_refl _) hz)
      have m2 : ∀ z, z ∈ (stab ans (xs.drop ((xs.length + 1) / 2)) (stab ans (xs.take ((xs.length + 1) / 2)) l).2).1 → z ∈ xs := fun z hz => List.mem_of_mem_drop (stab_mem ans _ _ _ z (Nat.le_refl _) hz)
      have g12 : Grew (fun z => z.1 ∈ xs ∧ z.2 ∈ xs) l (stab ans (xs.drop ((xs.length + 1) / 2)) (stab ans (xs.take ((xs.length + 1) / 2)) l).2).2 :=
        (i1.mono fun z h => ⟨List.mem_of_mem_take h.1, List.mem_of_mem_take h.2⟩).trans (i2.mono fun z h => ⟨List.mem_of_mem_drop h.1, List.mem_of_mem_drop h.2⟩)
      obtain ⟨x, ex⟩ : ∃ x, (stab ans (xs.take ((xs.length + 1) / 2)) l).1.getLast? = some x := by
        rw [List.getLast?_eq_getElem?]
        exact ⟨_, List.getElem?_eq_getElem (by omega)⟩
      obtain ⟨y, ey⟩ : ∃ y, (stab ans (xs.drop ((xs.length + 1) / 2)) (stab ans (xs.take ((xs.length + 1) / 2)) l).2).1.head? = some y := by
        rw [List.head?_eq_getElem?]
        exact ⟨_, List.getElem?_eq_getElem (by omega)⟩
      have g3 := g12.trans (Grew.one (z := (x, y)) ⟨m1 x (List.mem_of_getLast? ex), m2 y (by rw [List.head?_eq_getElem?] at ey; exact List.mem_of_getElem? ey)⟩)
      rw [stab_step ans l h2 rfl rfl ex ey]
      split
      · exact g3
      · exact g3.trans ((mrg_grew ans _ _ _).mono fun z h => ⟨m1 _ h.1, m2 _ h.2⟩)
end
end Mir
namespace Mir
section
variable {α β : Type}
theorem srt_of_keys {key : α → Int} {xs ys : List α} (h : Srt key xs) (e : xs.map key = ys.map key) : Srt key ys := by
  have h1 : (xs.map key).Pairwise (· ≤ ·) := List.pairwise_map.mpr h
  rw [e] at h1
  exact List.pairwise_map.mp h1
theorem srt_of_map {c : α → β} {k : β → Int} {xs ys : List α} (h : Srt (fun x => k (c x)) xs) (e : xs.map c = ys.map c) : Srt (fun x => k (c x)) ys := by
  refine srt_of_keys h ?_
  have e2 := congrArg (List.map k) e
  rw [List.map_map, List.map_map] at e2
  exact e2
end
end Mir
namespace Mir
section
variable {α : Type}
theorem Srt.congr {k1 k2 : α → Int} {xs : List α} (h : Srt k1 xs) (e : ∀ x ∈ xs, k1 x = k2 x) : Srt k2 xs := by
  refine srt_of_keys (key := k2) (xs := xs) ?_ rfl
  have h1 : (xs.map k1).Pairwise (· ≤ ·) := List.pairwise_map.mpr h
  rw [List.map_congr_left e] at h1
  exact List.pairwise_map.mp h1
end
end Mir

/-! maps: trees that are kept even; over any answers -/
namespace Mir
inductive Tr (α : Type) where
  | lf
  | nd (k h : α) (l r : Tr α)
section
variable {α : Type}
def lev : Tr α → Nat
  | .lf => 0
  | .nd _ _ l r => 1 + max (lev l) (lev r)
def cnt : Tr α → Nat
  | .lf => 0
  | .nd _ _ l r => 1 + cnt l + cnt r
def toL : Tr α → List (α × α)
  | .lf => []
  | .nd k h l r => toL l ++ (k, h) :: toL r
theorem cnt_len : ∀ t : Tr α, cnt t = (toL t).length
  | .lf => rfl
  | .nd k h l r => by
    rw [cnt, toL, List.length_append, List.length_cons, cnt_len l, cnt_len r]
    omega
def lean : Tr α → Int
  | .lf => 0
  | .nd _ _ l r => (lev l : Int) - (lev r : Int)
def rup : Tr α → Tr α
  | .nd k h (.nd k1 h1 l1 r1) r => .nd k1 h1 l1 (.nd k h r1 r)
  | t => t
def lup : Tr α → Tr α
  | .nd k h l (.nd k1 h1 l1 r1) => .nd k1 h1 (.nd k h l l1) r1
  | t => t
def evn (k h : α) (l r : Tr α) : Tr α :=
  if 1 < (lev l : Int) - (lev r : Int) then rup (.nd k h (if lean l < 0 then lup l else l) r)
  else if (lev l : Int) - (lev r : Int) < -1 then lup (.nd k h l (if 0 < lean r then rup r else r))
  else .nd k h l r
theorem rup_toL : ∀ t : Tr α, toL (rup t) = toL t
  | .lf => rfl
  | .nd k h .lf r => rfl
  | .nd k h (.nd k1 h1 l1 r1) r => by simp [rup, toL]
theorem lup_toL : ∀ t : Tr α, toL (lup t) = toL t
  | .lf => rfl
  | .nd k h .lf .lf => rfl
  | .nd k h (.nd _ _ _ _) .lf => rfl
  | .nd k h l (.nd k1 h1 l1 r1) => by simp [lup, toL]
theorem evn_toL (k h : α) (l r : Tr α) : toL (evn k h l r) = toL l ++ (k, h) :: toL r := by
  unfold evn
  split
  · rw [rup_toL, toL]
    split
    · rw [lup_toL]
    · rfl
  · split
    · rw [lup_toL, toL]
      split
      · rw [rup_toL]
      · rfl
    · rfl
/-- each node's sides differ by one at most -/
def Bal : Tr α → Prop
  | .lf => True
  | .nd _ _ l r => lev l ≤ lev r + 1 ∧ lev r ≤ lev l + 1 ∧ Bal l ∧ Bal r
theorem evn_bal (k h : α) {l r : Tr α} (bl : Bal l) (br : Bal r) (g1 : lev l ≤ lev r + 2) (g2 : lev r ≤ lev l + 2) :
    Bal (evn k h l r) ∧ max (lev l) (lev r) ≤ lev (evn k h l r) ∧ lev (evn k h l r) ≤ 1 + max (lev l) (lev r) ∧ (lev l ≤ lev r + 1 → lev r ≤ lev l + 1 → lev (evn k h l r) = 1 + max (lev l) (lev r)) := by
  unfold evn
  by_cases c1 : 1 < (lev l : Int) - (lev r : Int)
  · rw [if_pos c1]
    have e1 : lev l = lev r + 2 := by omega
    cases l with
    | lf => simp [lev] at e1
    | nd k1 h1 l1 r1 =>
      have e2 : 1 + max (lev l1) (lev r1) = lev r + 2 := e1
      obtain ⟨b1, b2, b3, b4⟩ := bl
      by_cases c2 : lean (Tr.nd k1 h1 l1 r1) < 0
      · rw [if_pos c2]
        have c3 : (lev l1 : Int) - (lev r1 : Int) < 0 := c2
        cases r1 with
        | lf => simp [lev] at c3 e2; omega
        | nd k2 h2 l2 r2 =>
          obtain ⟨d1, d2, d3, d4⟩ := b4
          simp only [lup, rup, Bal, lev] at *
          refine ⟨⟨by omega, by omega, ⟨by omega, by omega, b3, d3⟩, by omega, by omega, d4, br⟩, by omega, by omega, by omega⟩
      · rw [if_neg c2]
        have c3 : ¬ (lev l1 : Int) - (lev r1 : Int) < 0 := c2
        simp only [rup, Bal, lev] at *
        refine ⟨⟨by omega, by omega, b3, by omega, by omega, b4, br⟩, by omega, by omega, by omega⟩
  · rw [if_neg c1]
    by_cases c2 : (lev l : Int) - (lev r : Int) < -1
    · rw [if_pos c2]
      have e1 : lev r = lev l + 2 := by omega
      cases r with
      | lf => simp [lev] at e1
      | nd k1 h1 l1 r1 =>
        have e2 : 1 + max (lev l1) (lev r1) = lev l + 2 := e1
        obtain ⟨b1, b2, b3, b4⟩ := br
        by_cases c3 : 0 < lean (Tr.nd k1 h1 l1 r1)
        · rw [if_pos c3]
          have c4 : 0 < (lev l1 : Int) - (lev r1 : Int) := c3
          cases l1 with
          | lf => simp [lev] at c4 e2; omega
          | nd k2 h2 l2 r2 =>
            obtain ⟨d1, d2, d3, d4⟩ := b3
            simp only [lup, rup, Bal, lev] at *
            refine ⟨⟨by omega, by omega, ⟨by omega, by omega, bl, d3⟩, by omega, by omega, d4, b4⟩, by omega, by omega, by omega⟩
        · rw [if_neg c3]
          have c4 : ¬ 0 < (lev l1 : Int) - (lev r1 : Int) := c3
          simp only [lup, Bal, lev] at *
          refine ⟨⟨by omega, by omega, ⟨by omega, by omega, bl, b3⟩, b4⟩, by omega, by omega, by omega⟩
    · rw [if_neg c2]
      have e : lev (Tr.nd k h l r) = 1 + max (lev l) (lev r) := rfl
      exact ⟨⟨by omega, by omega, bl, br⟩, by omega, by omega, fun _ _ => rfl⟩
/-- few levels -/
theorem lev_cnt : ∀ t : Tr α, Bal t → 2 ^ lev t ≤ (cnt t + 1) * (cnt t + 1)
  | .lf, _ => by simp [lev, cnt]
  | .nd k h l r, b => by
    obtain ⟨b1, b2, b3, b4⟩ := b
    have h1 := lev_cnt l b3
    have h2 := lev_cnt r b4
    obtain ⟨a, ea⟩ : ∃ a, a = cnt l + 1 := ⟨_, rfl⟩
    obtain ⟨c, ec⟩ : ∃ c, c = cnt r + 1 := ⟨_, rfl⟩
    rw [← ea] at h1
    rw [← ec] at h2
    have e : cnt (Tr.nd k h l r) + 1 = a + c := by rw [cnt]; omega
    rw [e, lev]
    have key : ∀ (x y p q : Nat), p ≤ q + 1 → q ≤ p → 2 ^ p ≤ x * x → 2 ^ q ≤ y * y → 2 ^ (1 + p) ≤ (x + y) * (x + y) := by
      intro x y p q hp hq hx hy
      have e1 : (x + y) * (x + y) = x * x + y * y + 2 * (x * y) := by
        rw [Nat.add_mul, Nat.mul_add, Nat.mul_add, Nat.mul_comm y x]
        omega
      have e2 : (2:Nat) ^ (1 + p) = 2 * 2 ^ p := by rw [Nat.add_comm, Nat.pow_succ]; omega
      have hpq : 2 ^ p ≤ 2 * 2 ^ q := by
        have : (2:Nat) ^ p ≤ 2 ^ (q + 1) := Nat.pow_le_pow_right (by decide) hp
        rw [Nat.pow_succ] at this
        omega
      -- xy ≥ half of min
      have e3 : 2 ^ q ≤ x * y := by
        have hxx : 2 ^ q ≤ x * x := Nat.le_trans (Nat.pow_le_pow_right (by decide) hq) hx
        by_cases hxy : x ≤ y
        · exact Nat.le_trans hxx (Nat.mul_le_mul_left x hxy)
        · exact Nat.le_trans hy (Nat.mul_le_mul_right y (by omega))
      rw [e1, e2]
      omega
    by_cases hlr : lev r ≤ lev l
    · rw [Nat.max_eq_left hlr]
      exact key a c (lev l) (lev r) b1 hlr h1 h2
    · rw [Nat.max_eq_right (by omega), Nat.add_comm a c]
      exact key c a (lev r) (lev l) b2 (by omega) h2 h1
theorem lev_clog {t : Tr α} (b : Bal t) : lev t ≤ 2 * clog (cnt t + 1) := by
  have h := lev_cnt t b
  have h2 := le_clog (cnt t + 1)
  have h3 : 2 ^ lev t ≤ 2 ^ (2 * clog (cnt t + 1)) := by
    refine Nat.le_trans h (Nat.le_trans (Nat.mul_le_mul h2 h2) ?_)
    rw [← Nat.pow_add]
    exact Nat.pow_le_pow_right (by decide) (by omega)
  exact (Nat.pow_le_pow_iff_right (by decide)).mp h3
/-! ### put -/
abbrev AnsT (α : Type) := List (α × α) → α → α → Int
def wk (ans : AnsT α) : Tr α → α → α → List (α × α) → Tr α × Bool × List (α × α)
  | .lf, key, held, lg => (.nd key held .lf .lf, true, lg)
  | .nd k h l r, key, held, lg =>
    if ans lg k key = 0 then (.nd k held l r, false, lg ++ [(k, key)])
    else if 0 < ans lg k key then (evn k h (wk ans l key held (lg ++ [(k, key)])).1 r, (wk ans l key held (lg ++ [(k, key)])).2.1, (wk ans l key held (lg ++ [(k, key)])).2.2)
    else (evn k h l (wk ans r key held (lg ++ [(k, key)])).1, (wk ans r key held (lg ++ [(k, key)])).2.1, (wk ans r key held (lg ++ [(k, key)])).2.2)
theorem wk_toL (ans : AnsT α) (key held : α) : ∀ (t : Tr α) (lg : List (α × α)), (∃ A B, toL t = A ++ B ∧ toL (wk ans t key held lg).1 = A ++ (key, held) :: B ∧ (wk ans t key held lg).2.1 = true) ∨ (∃ A k h B, toL t = A ++ (k, h) :: B ∧ toL (wk ans t key held lg).1 = A ++ (k, held) :: B ∧ (wk ans t key held lg).2.1 = false)
  | .lf, lg => .inl ⟨[], [], rfl, rfl, rfl⟩
  | .nd k h l r, lg => by
    unfold wk
    by_cases c1 : ans lg k key = 0
    · rw [if_pos c1]
      exact .inr ⟨toL l, k, h, toL r, rfl, rfl, rfl⟩
    · rw [if_neg c1]
      by_cases c2 : 0 < ans lg k key
      · rw [if_pos c2]
        simp only [evn_toL]
        rcases wk_toL ans key held l (lg ++ [(k, key)]) with ⟨A, B, h1, h2, h3⟩ | ⟨A, k1, hh, B, h1, h2, h3⟩
        · exact .inl ⟨A, B ++ (k, h) :: toL r, by rw [toL, h1, List.append_assoc], by rw [h2]; simp, h3⟩
        · exact .inr ⟨A, k1, hh, B ++ (k, h) :: toL r, by rw [toL, h1]; simp, by rw [h2]; simp, h3⟩
      · rw [if_neg c2]
        simp only [evn_toL]
        rcases wk_toL ans key held r (lg ++ [(k, key)]) with ⟨A, B, h1, h2, h3⟩ | ⟨A, k1, hh, B, h1, h2, h3⟩
        · exact .inl ⟨toL l ++ (k, h) :: A, B, by rw [toL, h1]; simp, by rw [h2]; simp, h3⟩
        · exact .inr ⟨toL l ++ (k, h) :: A, k1, hh, B, by rw [toL, h1]; simp, by rw [h2]; simp, h3⟩
theorem wk_bal (ans : AnsT α) (key held : α) : ∀ (t : Tr α) (lg : List (α × α)), Bal t → Bal (wk ans t key held lg).1 ∧ lev t ≤ lev (wk ans t key held lg).1 ∧ lev (wk ans t key held lg).1 ≤ lev t + 1
  | .lf, lg, _ => by simp [wk, Bal, lev]
  | .nd k h l r, lg, b => by
    obtain ⟨b1, b2, b3, b4⟩ := b
    unfold wk
    by_cases c1 : ans lg k key = 0
    · rw [if_pos c1]
      exact ⟨⟨b1, b2, b3, b4⟩, Nat.le_refl _, Nat.le_succ _⟩
    · rw [if_neg c1]
      by_cases c2 : 0 < ans lg k key
      · rw [if_pos c2]
        obtain ⟨h1, h2, h3⟩ := wk_bal ans key held l (lg ++ [(k, key)]) b3
        obtain ⟨e1, e2, e3, e4⟩ := evn_bal k h h1 b4 (by omega) (by omega)
        refine ⟨e1, ?_, ?_⟩
        · simp only [lev]
          by_cases hc : lev (wk ans l key held (lg ++ [(k, key)])).1 ≤ lev r + 1
          · rw [e4 hc (by omega)]
            omega
          · omega
        · simp only [lev]
          omega
      · rw [if_neg c2]
        obtain ⟨h1, h2, h3⟩ := wk_bal ans key held r (lg ++ [(k, key)]) b4
        obtain ⟨e1, e2, e3, e4⟩ := evn_bal k h b3 h1 (by omega) (by omega)
        refine ⟨e1, ?_, ?_⟩
        · simp only [lev]
          by_cases hc : lev (wk ans r key held (lg ++ [(k, key)])).1 ≤ lev l + 1
          · rw [e4 (by omega) hc]
            omega
          · omega
        · simp only [lev]
          omega
/-- what is asked: keys held, the key; no more than levels -/
theorem wk_log (ans : AnsT α) (key held : α) : ∀ (t : Tr α) (lg : List (α × α)), ∃ m, (wk ans t key held lg).2.2 = lg ++ m ∧ m.length ≤ lev t ∧ ∀ z ∈ m, z.2 = key ∧ z.1 ∈ (toL t).map (·.1)
  | .lf, lg => ⟨[], (List.append_nil _).symm, Nat.le_refl _, fun z hz => by cases hz⟩
  | .nd k h l r, lg => by
    unfold wk
    by_cases c1 : ans lg k key = 0
    · rw [if_pos c1]
      refine ⟨[(k, key)], rfl, by simp only [List.length_singleton, lev]; omega, fun z hz => ?_⟩
      rw [List.mem_singleton.mp hz]
      exact ⟨rfl, by simp [toL]⟩
    · rw [if_neg c1]
      by_cases c2 : 0 < ans lg k key
      · rw [if_pos c2]
        obtain ⟨m, h1, h2, h3⟩ := wk_log ans key held l (lg ++ [(k, key)])
        refine ⟨(k, key) :: m, by show (wk ans l key held (lg ++ [(k, key)])).2.2 = _; rw [h1]; simp, by simp only [List.length_cons, lev]; omega, fun z hz => ?_⟩
        rcases List.mem_cons.mp hz with e | e
        · rw [e]
          exact ⟨rfl, by simp [toL]⟩
        · refine ⟨(h3 z e).1, ?_⟩
          rw [toL, List.map_append]
          exact List.mem_append_left _ (h3 z e).2
      · rw [if_neg c2]
        obtain ⟨m, h1, h2, h3⟩ := wk_log ans key held r (lg ++ [(k, key)])
        refine ⟨(k, key) :: m, by show (wk ans r key held (lg ++ [(k, key)])).2.2 = _; rw [h1]; simp, by simp only [List.length_cons, lev]; omega, fun z hz => ?_⟩
        rcases List.mem_cons.mp hz with e | e
        · rw [e]
          exact ⟨rfl, by simp [toL]⟩
        · refine ⟨(h3 z e).1, ?_⟩
          rw [toL, List.map_append, List.map_cons]
          exact List.mem_append_right _ (List.mem_cons_of_mem _ (h3 z e).2)
/-! ### drop -/
/-- the first node (without its left), and the tree without it -/
def wf : α → α → Tr α → Tr α → (α × α × Tr α) × Tr α
  | k, h, .lf, r => ((k, h, r), r)
  | k, h, .nd k1 h1 l1 r1, r => ((wf k1 h1 l1 r1).1, evn k h (wf k1 h1 l1 r1).2 r)
def jn : Tr α → Tr α → Tr α
  | .lf, r => r
  | .nd k h l r, .lf => .nd k h l r
  | .nd k h l r, .nd k1 h1 l1 r1 => evn (wf k1 h1 l1 r1).1.1 (wf k1 h1 l1 r1).1.2.1 (.nd k h l r) (wf k1 h1 l1 r1).2
def wo (ans : AnsT α) : Tr α → α → List (α × α) → Tr α × Bool × List (α × α)
  | .lf, key, lg => (.lf, false, lg)
  | .nd k h l r, key, lg =>
    if ans lg k key = 0 then (jn l r, true, lg ++ [(k, key)])
    else if 0 < ans lg k key then (evn k h (wo ans l key (lg ++ [(k, key)])).1 r, (wo ans l key (lg ++ [(k, key)])).2.1, (wo ans l key (lg ++ [(k, key)])).2.2)
    else (evn k h l (wo ans r key (lg ++ [(k, key)])).1, (wo ans r key (lg ++ [(k, key)])).2.1, (wo ans r key (lg ++ [(k, key)])).2.2)
theorem wf_toL : ∀ (k h : α) (l r : Tr α), toL l ++ (k, h) :: toL r = ((wf k h l r).1.1, (wf k h l r).1.2.1) :: toL (wf k h l r).2
  | k, h, .lf, r => rfl
  | k, h, .nd k1 h1 l1 r1, r => by
    have ih := wf_toL k1 h1 l1 r1
    rw [toL, ih]
    simp only [wf, evn_toL, List.cons_append]
theorem wf_bal : ∀ (k h : α) (l r : Tr α), Bal (.nd k h l r) → Bal (wf k h l r).2 ∧ lev (wf k h l r).2 ≤ lev (.nd k h l r) ∧ lev (.nd k h l r) ≤ lev (wf k h l r).2 + 1
  | k, h, .lf, r, b => by
    obtain ⟨b1, b2, b3, b4⟩ := b
    simp only [wf, lev] at *
    exact ⟨b4, by omega, by omega⟩
  | k, h, .nd k1 h1 l1 r1, r, b => by
    obtain ⟨b1, b2, b3, b4⟩ := b
    obtain ⟨i1, i2, i3⟩ := wf_bal k1 h1 l1 r1 b3
    have el : lev (Tr.nd k h (.nd k1 h1 l1 r1) r) = 1 + max (lev (Tr.nd k1 h1 l1 r1)) (lev r) := rfl
    obtain ⟨e1, e2, e3, e4⟩ := evn_bal k h i1 b4 (by omega) (by omega)
    simp only [wf]
    refine ⟨e1, by omega, ?_⟩
    by_cases hc : lev r ≤ lev (wf k1 h1 l1 r1).2 + 1
    · rw [e4 (by omega) hc]
      omega
    · omega
theorem jn_toL : ∀ (l r : Tr α), toL (jn l r) = toL l ++ toL r
  | .lf, r => rfl
  | .nd k h l r, .lf => by simp [jn, toL]
  | .nd k h l r, .nd k1 h1 l1 r1 => by
    simp only [jn, evn_toL]
    rw [toL]
    rw [show toL (Tr.nd k1 h1 l1 r1) = ((wf k1 h1 l1 r1).1.1, (wf k1 h1 l1 r1).1.2.1) :: toL (wf k1 h1 l1 r1).2 from wf_toL k1 h1 l1 r1]
theorem jn_bal : ∀ (l r : Tr α), Bal l → Bal r → lev l ≤ lev r + 1 → lev r ≤ lev l + 1 → Bal (jn l r) ∧ max (lev l) (lev r) ≤ lev (jn l r) ∧ lev (jn l r) ≤ 1 + max (lev l) (lev r)
  | .lf, r, _, b, _, _ => ⟨b, by simp [jn, lev], by show lev r ≤ 1 + max 0 (lev r); omega⟩
  | .nd k h l r, .lf, b, _, _, _ => ⟨b, by simp [jn, lev], by simp [jn, lev]⟩
  | .nd k h l r, .nd k1 h1 l1 r1, b, b', c1, c2 => by
    obtain ⟨i1, i2, i3⟩ := wf_bal k1 h1 l1 r1 b'
    obtain ⟨e1, e2, e3, e4⟩ := evn_bal (wf k1 h1 l1 r1).1.1 (wf k1 h1 l1 r1).1.2.1 b i1 (by omega) (by omega)
    simp only [jn]
    refine ⟨e1, ?_, by omega⟩
    by_cases hc : lev (Tr.nd k h l r) ≤ lev (wf k1 h1 l1 r1).2 + 1
    · rw [e4 hc (by omega)]
      omega
    · omega
theorem wo_toL (ans : AnsT α) (key : α) : ∀ (t : Tr α) (lg : List (α × α)), (toL (wo ans t key lg).1 = toL t ∧ (wo ans t key lg).2.1 = false) ∨ (∃ A x B, toL t = A ++ x :: B ∧ toL (wo ans t key lg).1 = A ++ B ∧ (wo ans t key lg).2.1 = true)
  | .lf, lg => .inl ⟨rfl, rfl⟩
  | .nd k h l r, lg => by
    unfold wo
    by_cases c1 : ans lg k key = 0
    · rw [if_pos c1]
      exact .inr ⟨toL l, (k, h), toL r, rfl, jn_toL l r, rfl⟩
    · rw [if_neg c1]
      by_cases c2 : 0 < ans lg k key
      · rw [if_pos c2]
        simp only [evn_toL]
        rcases wo_toL ans key l (lg ++ [(k, key)]) with ⟨h1, h2⟩ | ⟨A, x, B, h1, h2, h3⟩
        · exact .inl ⟨by rw [h1, toL], h2⟩
        · exact .inr ⟨A, x, B ++ (k, h) :: toL r, by rw [toL, h1]; simp, by rw [h2]; simp, h3⟩
      · rw [if_neg c2]
        simp only [evn_toL]
        rcases wo_toL ans key r (lg ++ [(k, key)]) with ⟨h1, h2⟩ | ⟨A, x, B, h1, h2, h3⟩
        · exact .inl ⟨by rw [h1, toL], h2⟩
        · exact .inr ⟨toL l ++ (k, h) :: A, x, B, by rw [toL, h1]; simp, by rw [h2]; simp, h3⟩
theorem wo_bal (ans : AnsT α) (key : α) : ∀ (t : Tr α) (lg : List (α × α)), Bal t → Bal (wo ans t key lg).1 ∧ lev (wo ans t key lg).1 ≤ lev t ∧ lev t ≤ lev (wo ans t key lg).1 + 1
  | .lf, lg, _ => by simp [wo, Bal, lev]
  | .nd k h l r, lg, b => by
    obtain ⟨b1, b2, b3, b4⟩ := b
    unfold wo
    by_cases c1 : ans lg k key = 0
    · rw [if_pos c1]
      obtain ⟨e1, e2, e3⟩ := jn_bal l r b3 b4 b1 b2
      refine ⟨e1, ?_, ?_⟩
      · simp only [lev]
        omega
      · simp only [lev]
        omega
    · rw [if_neg c1]
      by_cases c2 : 0 < ans lg k key
      · rw [if_pos c2]
        obtain ⟨h1, h2, h3⟩ := wo_bal ans key l (lg ++ [(k, key)]) b3
        obtain ⟨e1, e2, e3, e4⟩ := evn_bal k h h1 b4 (by omega) (by omega)
        refine ⟨e1, by simp only [lev]; omega, ?_⟩
        simp only [lev]
        by_cases hc : lev r ≤ lev (wo ans l key (lg ++ [(k, key)])).1 + 1
        · rw [e4 (by omega) hc]
          omega
        · omega
      · rw [if_neg c2]
        obtain ⟨h1, h2, h3⟩ := wo_bal ans key r (lg ++ [(k, key)]) b4
        obtain ⟨e1, e2, e3, e4⟩ := evn_bal k h b3 h1 (by omega) (by omega)
        refine ⟨e1, by simp only [lev]; omega, ?_⟩
        simp only [lev]
        by_cases hc : lev l ≤ lev (wo ans r key (lg ++ [(k, key)])).1 + 1
        · rw [e4 hc (by omega)]
          omega
        · omega
theorem wo_log (ans : AnsT α) (key : α) : ∀ (t : Tr α) (lg : List (α × α)), ∃ m, (wo ans t key lg).2.2 = lg ++ m ∧ m.length ≤ lev t ∧ ∀ z ∈ m, z.2 = key ∧ z.1 ∈ (toL t).map (·.1)
  | .lf, lg => ⟨[], (List.append_nil _).symm, Nat.le_refl _, fun z hz => by cases hz⟩
  | .nd k h l r, lg => by
    unfold wo
    by_cases c1 : ans lg k key = 0
    · rw [if_pos c1]
      refine ⟨[(k, key)], rfl, by simp only [List.length_singleton, lev]; omega, fun z hz => ?_⟩
      rw [List.mem_singleton.mp hz]
      exact ⟨rfl, by simp [toL]⟩
    · rw [if_neg c1]
      by_cases c2 : 0 < ans lg k key
      · rw [if_pos c2]
        obtain ⟨m, h1, h2, h3⟩ := wo_log ans key l (lg ++ [(k, key)])
        refine ⟨(k, key) :: m, by show (wo ans l key (lg ++ [(k, key)])).2.2 = _; rw [h1]; simp, by simp only [List.length_cons, lev]; omega, fun z hz => ?_⟩
        rcases List.mem_cons.mp hz with e | e
        · rw [e]
          exact ⟨rfl, by simp [toL]⟩
        · refine ⟨(h3 z e).1, ?_⟩
          rw [toL, List.map_append]
          exact List.mem_append_left _ (h3 z e).2
      · rw [if_neg c2]
        obtain ⟨m, h1, h2, h3⟩ := wo_log ans key r (lg ++ [(k, key)])
        refine ⟨(k, key) :: m, by show (wo ans r key (lg ++ [(k, key)])).2.2 = _; rw [h1]; simp, by simp only [List.length_cons, lev]; omega, fun z hz => ?_⟩
        rcases List.mem_cons.mp hz with e | e
        · rw [e]
          exact ⟨rfl, by simp [toL]⟩
        · refine ⟨(h3 z e).1, ?_⟩
          rw [toL, List.map_append, List.map_cons]
          exact List.mem_append_right _ (List.mem_cons_of_mem _ (h3 z e).2)
/-! ### find -/
/-- the node found, how many were passed -/
def fnd (ans : AnsT α) : Tr α → α → Nat → List (α × α) → Option (α × α) × Nat × List (α × α)
  | .lf, key, p, lg => (none, p, lg)
  | .nd k h l r, key, p, lg =>
    if ans lg k key = 0 then (some (k, h), p + cnt l, lg ++ [(k, key)])
    else if 0 < ans lg k key then fnd ans l key p (lg ++ [(k, key)])
    else fnd ans r key (p + cnt l + 1) (lg ++ [(k, key)])
theorem fnd_log (ans : AnsT α) (key : α) : ∀ (t : Tr α) (p : Nat) (lg : List (α × α)), ∃ m, (fnd ans t key p lg).2.2 = lg ++ m ∧ m.length ≤ lev t ∧ ∀ z ∈ m, z.2 = key ∧ z.1 ∈ (toL t).map (·.1)
  | .lf, p, lg => ⟨[], (List.append_nil _).symm, Nat.le_refl _, fun z hz => by cases hz⟩
  | .nd k h l r, p, lg => by
    unfold fnd
    by_cases c1 : ans lg k key = 0
    · rw [if_pos c1]
      refine ⟨[(k, key)], rfl, by simp only [List.length_singleton, lev]; omega, fun z hz => ?_⟩
      rw [List.mem_singleton.mp hz]
      exact ⟨rfl, by simp [toL]⟩
    · rw [if_neg c1]
      by_cases c2 : 0 < ans lg k key
      · rw [if_pos c2]
        obtain ⟨m, h1, h2, h3⟩ := fnd_log ans key l p (lg ++ [(k, key)])
        refine ⟨(k, key) :: m, by rw [h1]; simp, by simp only [List.length_cons, lev]; omega, fun z hz => ?_⟩
        rcases List.mem_cons.mp hz with e | e
        · rw [e]
          exact ⟨rfl, by simp [toL]⟩
        · refine ⟨(h3 z e).1, ?_⟩
          rw [toL, List.map_append]
          exact List.mem_append_left _ (h3 z e).2
      · rw [if_neg c2]
        obtain ⟨m, h1, h2, h3⟩ := fnd_log ans key r (p + cnt l + 1) (lg ++ [(k, key)])
        refine ⟨(k, key) :: m, by rw [h1]; simp, by simp only [List.length_cons, lev]; omega, fun z hz => ?_⟩
        rcases List.mem_cons.mp hz with e | e
        · rw [e]
          exact ⟨rfl, by simp [toL]⟩
        · refine ⟨(h3 z e).1, ?_⟩
          rw [toL, List.map_append, List.map_cons]
          exact List.mem_append_right _ (List.mem_cons_of_mem _ (h3 z e).2)
/-! ### at -/
theorem toL_at (k h : α) (l r : Tr α) (i : Nat) : (toL (.nd k h l r))[i]? = if i < cnt l then (toL l)[i]? else if i = cnt l then some (k, h) else (toL r)[i - cnt l - 1]? := by
  rw [toL, cnt_len l]
  by_cases h1 : i < (toL l).length
  · rw [if_pos h1, List.getElem?_append_left h1]
  · rw [if_neg h1, List.getElem?_append_right (by omega)]
    by_cases h2 : i = (toL l).length
    · rw [if_pos h2, h2, Nat.sub_self]
      rfl
    · rw [if_neg h2, show i - (toL l).length = (i - (toL l).length - 1) + 1 by omega, List.getElem?_cons_succ]
      congr 1
end
end Mir
namespace Mir
section
variable {α : Type}
theorem wk_mem (ans : AnsT α) (key held : α) (t : Tr α) (lg : List (α × α)) : ∀ z ∈ toL (wk ans t key held lg).1, z ∈ toL t ∨ (z.2 = held ∧ (z.1 = key ∨ ∃ h, (z.1, h) ∈ toL t)) := by
  intro z hz
  rcases wk_toL ans key held t lg with ⟨A, B, h1, h2, _⟩ | ⟨A, k, h, B, h1, h2, _⟩
  · rw [h2] at hz
    rw [h1]
    rcases List.mem_append.mp hz with q | q
    · exact .inl (List.mem_append_left _ q)
    · rcases List.mem_cons.mp q with q | q
      · rw [q]
        exact .inr ⟨rfl, .inl rfl⟩
      · exact .inl (List.mem_append_right _ q)
  · rw [h2] at hz
    rw [h1]
    rcases List.mem_append.mp hz with q | q
    · exact .inl (List.mem_append_left _ q)
    · rcases List.mem_cons.mp q with q | q
      · rw [q]
        exact .inr ⟨rfl, .inr ⟨h, List.mem_append_right _ List.mem_cons_self⟩⟩
      · exact .inl (List.mem_append_right _ (List.mem_cons_of_mem _ q))
theorem wk_cnt (ans : AnsT α) (key held : α) (t : Tr α) (lg : List (α × α)) : cnt (wk ans t key held lg).1 = cnt t + (if (wk ans t key held lg).2.1 = true then 1 else 0) := by
  rw [cnt_len, cnt_len]
  rcases wk_toL ans key held t lg with ⟨A, B, h1, h2, h3⟩ | ⟨A, k, h, B, h1, h2, h3⟩
  · rw [h1, h2, h3, List.length_append, List.length_append, List.length_cons, if_pos rfl]
    omega
  · rw [h1, h2, h3, List.length_append, List.length_append, List.length_cons, List.length_cons, if_neg Bool.false_ne_true]
    omega
theorem wo_mem (ans : AnsT α) (key : α) (t : Tr α) (lg : List (α × α)) : ∀ z ∈ toL (wo ans t key lg).1, z ∈ toL t := by
  intro z hz
  rcases wo_toL ans key t lg with ⟨h1, _⟩ | ⟨A, x, B, h1, h2, _⟩
  · rw [← h1]
    exact hz
  · rw [h2] at hz
    rw [h1]
    rcases List.mem_append.mp hz with q | q
    · exact List.mem_append_left _ q
    · exact List.mem_append_right _ (List.mem_cons_of_mem _ q)
theorem wo_cnt (ans : AnsT α) (key : α) (t : Tr α) (lg : List (α × α)) : cnt (wo ans t key lg).1 + (if (wo ans t key lg).2.1 = true then 1 else 0) = cnt t := by
  rw [cnt_len, cnt_len]
  rcases wo_toL ans key t lg with ⟨h1, h2⟩ | ⟨A, x, B, h1, h2, h3⟩
  · rw [h1, h2, if_neg Bool.false_ne_true]
    rfl
  · rw [h1, h2, h3, List.length_append, List.length_append, List.length_cons, if_pos rfl]
    omega
theorem lev12 {t : Tr α} (b : Bal t) (h : cnt t ≤ 60) : lev t ≤ 12 := by
  have h1 := lev_clog b
  have h2 : clog (cnt t + 1) ≤ 6 := clog_le.mpr (by omega)
  omega
theorem wk_asks (ans : AnsT α) (key held : α) (t : Tr α) (lg : List (α × α)) (h : toL t ≠ []) : lg.length < (wk ans t key held lg).2.2.length := by
  cases t with
  | lf => exact absurd rfl h
  | nd k g l r =>
    unfold wk
    split
    · simp
    · split
      · obtain ⟨m, h1, _⟩ := wk_log ans key held l (lg ++ [(k, key)])
        show _ < (wk ans l key held (lg ++ [(k, key)])).2.2.length
        rw [h1]
        simp
      · obtain ⟨m, h1, _⟩ := wk_log ans key held r (lg ++ [(k, key)])
        show _ < (wk ans r key held (lg ++ [(k, key)])).2.2.length
        rw [h1]
        simp
theorem wo_asks (ans : AnsT α) (key : α) (t : Tr α) (lg : List (α × α)) (h : toL t ≠ []) : lg.length < (wo ans t key lg).2.2.length := by
  cases t with
  | lf => exact absurd rfl h
  | nd k g l r =>
    unfold wo
    split
    · simp
    · split
      · obtain ⟨m, h1, _⟩ := wo_log ans key l (lg ++ [(k, key)])
        show _ < (wo ans l key (lg ++ [(k, key)])).2.2.length
        rw [h1]
        simp
      · obtain ⟨m, h1, _⟩ := wo_log ans key r (lg ++ [(k, key)])
        show _ < (wo ans r key (lg ++ [(k, key)])).2.2.length
        rw [h1]
        simp
end
end Mir

/-! classes: methods and __init__ by name, attributes as targets; nodes and trees in the heap -/
namespace Ord
open PySem PySem.Spec PyProof.Rows L2 LamX
open Mir (Tr)
/-! ### attributes as targets -/
def gFld (K : PySem.W.Frag) (to : TE) (f : Str) : TG := fun v σ H Q => to σ H fun x H1 => ∃ a C dx fs, x = .ref a ∧ H1 a = some (.ins C dx fs) ∧ Cls K C ∧ NoAttr K C f ∧ fs.length < 1000 ∧ Q σ (upd H1 a (.ins C dx (putF f v fs)))
theorem pg_attr {X : Cx} {o : Expr} {f : Str} {pos : Pos} {to : TE} (ho : PE X o to)
    (ha : ∀ v, assign (.Attribute o f pos) X.env v = (do
      let ov ← holding [v] (eval o X.env)
      standAt pos.atName
      holding [v, ov] (setAttr ov f v)
      release [v, ov] []) := by intro _; rfl) : PG X (.Attribute o f pos) (gFld X.K to f) := by
  refine ⟨fun pins s σ H v u Q I r h => ?_⟩
  rw [ha]
  refine wpAny_bind (wpAny_holding (thn (ho.run pins s σ H _ I h) fun ov s1 ⟨x, H1, I1, r1, q1⟩ => ?_))
  obtain ⟨a, C, dx, fs, ex, ea, c, n, l, q⟩ := q1
  subst ex
  obtain rfl : ov = Value.ref a := r1
  refine wpAny_bind (wpAny_standAt (wpAny_bind (wpAny_holding (setattr_ok I1 ea c n l r fun s3 I3 => ?_))))
  exact wpAny_release ⟨σ, _, I3, q⟩
/-! ### methods by name -/
structure Dm (K : PySem.W.Frag) (C : Addr) (m qual : Str) (st : Stmt) (ps : List Str) where
  f : Addr
  fd : FuncData
  F : Fun K m qual st f fd
  me : Meth K C m f
  b : Binds K fd ps []
structure Di (K : PySem.W.Frag) (mg : Str → Option Value) (C : Addr) (x qual : Str) (st : Stmt) (ps : List Str) where
  f : Addr
  fd : FuncData
  F : Fun K "__init__" qual st f fd
  mkr : Mk K C f
  b : Binds K fd ps []
  cl : Cls K C
  g : mg x = some (.ref C)
section
variable {X : Cx} {k : Nat} {C : Addr} {m qual x : Str} {st : Stmt} {ps : List Str} {sp : Sp} {p pos apos : Pos} {e o : Expr} {es : List Expr} {t : TA} {ta : TE}
theorem pe_mk {d : Di X.K X.mg C x qual st ps} (G : FnOk X.prog X.w X.K X.mg X.base CX0 k d.f d.fd ps sp) (hr : Room (k + 1) X.A) (ha : PA X (e :: es) t) (hg : Gl X x := by rfl) (hdb : (x == ("__debug__" : Str)) = false := by decide)
    (he : starEach (e :: es) X.env = (false, eval e X.env) :: starEach es X.env := by rfl) (hpl : (backTo pos (starEach es X.env)).any (·.1) = false := by rfl) : PE X (.Call (.Name x p) (e :: es) [] pos) (tMake C sp [] E0 t) :=
  pe_make d.mkr G hr hg d.g d.b .nil pass0 ha hdb he hpl
theorem pe_md {pl : Sem Bool} {d : Dm X.K C m qual st ps} (cl : Cls X.K C) (G : FnOk X.prog X.w X.K X.mg X.base CX0 k d.f d.fd ps sp) (hr : Room k X.A) (ho : PE X o ta) (ha : PA X (e :: es) t)
    (hst : starEach (e :: es) X.env = (false, eval e X.env) :: starEach es X.env := by rfl) (hpl : (backTo pos (starEach es X.env)).any (·.1) = false := by rfl)
    (ht : eval (.Call (.Attribute o m apos) (e :: es) [] pos) X.env = (do
      let ov ← eval o X.env
      standAt apos.atName
      let (f, first) ← holding [ov] (getMethod ov m pl)
      callWith pos f first (backTo pos (starEach (e :: es) X.env)) (backToKw pos (keywordEach [] X.env))) := by rfl) : PE X (.Call (.Attribute o m apos) (e :: es) [] pos) (tMeth C m sp [] E0 ta t) :=
  pe_meth ho cl d.me G hr d.b .nil pass0 ha hst hpl ht
theorem pe_md0 {pl : Sem Bool} {d : Dm X.K C m qual st ps} (cl : Cls X.K C) (G : FnOk X.prog X.w X.K X.mg X.base CX0 k d.f d.fd ps sp) (hr : Room k X.A) (ho : PE X o ta)
    (ht : eval (.Call (.Attribute o m apos) [] [] pos) X.env = (do
      let ov ← eval o X.env
      standAt apos.atName
      let (f, first) ← holding [ov] (getMethod ov m pl)
      callWith pos f first (backTo pos (starEach [] X.env)) (backToKw pos (keywordEach [] X.env))) := by rfl) : PE X (.Call (.Attribute o m apos) [] [] pos) (tMeth C m sp [] E0 ta tNil) :=
  pe_meth0 ho cl d.me G hr d.b .nil pass0 ht
theorem pe_mdLent {pl : Sem Bool} {d : Dm X.K C m qual st ps} (cl : Cls X.K C) (G : FnOk X.prog X.w X.K X.mg X.base CX0 k d.f d.fd ps sp) (hr : Room k X.A) (un : UniqC X.env.cells) (hfn : ∀ x, X.fn x = true) (ho : PE X o ta) (ha : PA X (e :: es) t)
    (hst : starEach (e :: es) X.env = (false, eval e X.env) :: starEach es X.env := by rfl) (hpl : (backTo pos (starEach es X.env)).any (·.1) = false := by rfl)
    (ht : eval (.Call (.Attribute o m apos) (e :: es) [] pos) X.env = (do
      let ov ← eval o X.env
      standAt apos.atName
      let (f, first) ← holding [ov] (getMethod ov m pl)
      callWith pos f first (backTo pos (starEach (e :: es) X.env)) (backToKw pos (keywordEach [] X.env))) := by rfl) : PE X (.Call (.Attribute o m apos) (e :: es) [] pos) (tMethLent X C m sp ta t) :=
  pe_methLent ho cl d.me G hr d.b un hfn (fun _ _ _ _ z => z) ha hst hpl ht
end
/-! ### nodes -/
structure NodeT (K : PySem.W.Frag) (C : Addr) : Prop where
  cl : Cls K C
  nk : NoAttr K C "key"
  nh : NoAttr K C "held"
  nl : NoAttr K C "left"
  nr : NoAttr K C "right"
  nv : NoAttr K C "level"
  nm : NoAttr K C "many"
structure MapT (K : PySem.W.Frag) (C : Addr) : Prop where
  cl : Cls K C
  no : NoAttr K C "order"
  nr : NoAttr K C "root"
def nfl (k h l r : V) (n m : Nat) : List (Str × V) := [("key", k), ("held", h), ("left", l), ("right", r), ("level", .int n), ("many", .int m)]
theorem ne_kh : ¬ ("key" : Str) = "held" := by decide +kernel
theorem ne_kl : ¬ ("key" : Str) = "left" := by decide +kernel
theorem ne_kr : ¬ ("key" : Str) = "right" := by decide +kernel
theorem ne_kv : ¬ ("key" : Str) = "level" := by decide +kernel
theorem ne_km : ¬ ("key" : Str) = "many" := by decide +kernel
theorem ne_hl : ¬ ("held" : Str) = "left" := by decide +kernel
theorem ne_hr : ¬ ("held" : Str) = "right" := by decide +kernel
theorem ne_hv : ¬ ("held" : Str) = "level" := by decide +kernel
theorem ne_hm : ¬ ("held" : Str) = "many" := by decide +kernel
theorem ne_lr : ¬ ("left" : Str) = "right" := by decide +kernel
theorem ne_lv : ¬ ("left" : Str) = "level" := by decide +kernel
theorem ne_lm : ¬ ("left" : Str) = "many" := by decide +kernel
theorem ne_rv : ¬ ("right" : Str) = "level" := by decide +kernel
theorem ne_rm : ¬ ("right" : Str) = "many" := by decide +kernel
theorem ne_vm : ¬ ("level" : Str) = "many" := by decide +kernel
theorem nfl_put (k h l r : V) (n m : Nat) : putF "many" (.int m) (putF "level" (.int n) (putF "right" r (putF "left" l (putF "held" h (putF "key" k []))))) = nfl k h l r n m := by
  simp only [putF, if_neg ne_kh, if_neg ne_kl, if_neg ne_kr, if_neg ne_kv, if_neg ne_km, if_neg ne_hl, if_neg ne_hr, if_neg ne_hv, if_neg ne_hm, if_neg ne_lr, if_neg ne_lv, if_neg ne_lm, if_neg ne_rv, if_neg ne_rm, if_neg ne_vm, nfl]
theorem lk_ne {g f : Str} {v : V} {fs : List (Str × V)} (n : ¬ f = g) : List.lookup g ((f, v) :: fs) = List.lookup g fs := by
  rw [List.lookup_cons]
  have : (g == f) = false := beq_eq_false_iff_ne.mpr fun z => n z.symm
  rw [this]
theorem lk_eq {f : Str} {v : V} {fs : List (Str × V)} : List.lookup f ((f, v) :: fs) = some v := by
  rw [List.lookup_cons]
  simp
section
variable (k h l r : V) (n m : Nat)
theorem nfl_key : (nfl k h l r n m).lookup ("key" : Str) = some k := lk_eq
theorem nfl_held : (nfl k h l r n m).lookup ("held" : Str) = some h := by
  unfold nfl
  rw [lk_ne ne_kh, lk_eq]
theorem nfl_left : (nfl k h l r n m).lookup ("left" : Str) = some l := by
  unfold nfl
  rw [lk_ne ne_kl, lk_ne ne_hl, lk_eq]
theorem nfl_right : (nfl k h l r n m).lookup ("right" : Str) = some r := by
  unfold nfl
  rw [lk_ne ne_kr, lk_ne ne_hr, lk_ne ne_lr, lk_eq]
theorem nfl_level : (nfl k h l r n m).lookup ("level" : Str) = some (.int n) := by
  unfold nfl
  rw [lk_ne ne_kv, lk_ne ne_hv, lk_ne ne_lv, lk_ne ne_rv, lk_eq]
theorem nfl_many : (nfl k h l r n m).lookup ("many" : Str) = some (.int m) := by
  unfold nfl
  rw [lk_ne ne_km, lk_ne ne_hm, lk_ne ne_lm, lk_ne ne_rm, lk_ne ne_vm, lk_eq]
end
/-- what stands in a map -/
def mfl (f : Addr) (r : V) : List (Str × V) := [("order", .ref f), ("root", r)]
theorem ne_or : ¬ ("order" : Str) = "root" := by decide +kernel
theorem mfl_order (f : Addr) (r : V) : (mfl f r).lookup ("order" : Str) = some (.ref f) := lk_eq
theorem mfl_root (f : Addr) (r : V) : (mfl f r).lookup ("root" : Str) = some r := by
  unfold mfl
  rw [lk_ne ne_or, lk_eq]
theorem mfl_put0 (f : Addr) (r : V) : putF "root" r (putF "order" (.ref f) []) = mfl f r := by
  simp only [putF, if_neg ne_or, mfl]
theorem mfl_put (f : Addr) (r r' : V) : putF "root" r' (mfl f r) = mfl f r' := by
  simp only [mfl, putF, if_neg ne_or, if_true]
theorem mfl_no {m : Str} (f : Addr) (r : V) (h1 : ¬ ("order" : Str) = m) (h2 : ¬ ("root" : Str) = m) : (mfl f r).lookup m = none := by
  unfold mfl
  rw [lk_ne h1, lk_ne h2]
  rfl
/-! ### trees -/
def TreeAt (CN q : Addr) (H : Hp) : V → Tr V → Prop
  | v, .lf => v = .non
  | v, .nd k h l r => ∃ (a dx : Addr) (lv rv : V), v = .ref a ∧ a ≠ q ∧ H a = some (.ins CN dx (nfl k h lv rv (Mir.lev (.nd k h l r)) (Mir.cnt (.nd k h l r)))) ∧ TreeAt CN q H lv l ∧ TreeAt CN q H rv r
theorem TreeAt.keep {CN q : Addr} {H H' : Hp} (k : ∀ b o, b ≠ q → H b = some o → H' b = some o) : ∀ {t : Tr V} {v : V}, TreeAt CN q H v t → TreeAt CN q H' v t
  | .lf, v, h => h
  | .nd _ _ l r, v, h => by
    obtain ⟨a, dx, lv, rv, e1, e2, e3, e4, e5⟩ := h
    exact ⟨a, dx, lv, rv, e1, e2, k _ _ e2 e3, e4.keep k, e5.keep k⟩
theorem TreeAt.kb {CN q : Addr} {H H' : Hp} {t : Tr V} {v : V} (h : TreeAt CN q H v t) (k : KB q H H') : TreeAt CN q H' v t := h.keep k.keep
theorem TreeAt.same {CN q : Addr} {H H' : Hp} {t : Tr V} {v : V} (h : TreeAt CN q H v t) (s : Same H H') : TreeAt CN q H' v t := h.keep fun b o _ e => s b o e
theorem non_ref (a : Addr) : decide (V.ref a = V.non) = false := decide_eq_false fun z => by cases z
theorem non_non : decide (V.non = V.non) = true := decide_eq_true rfl
end Ord

set_option pp.deepTerms false
set_option pp.maxSteps 1500
namespace Ord
open PySem PySem.Spec PyProof.Rows L2 LamX
open Mir (Tr)
theorem TreeAt.offk {CN q p : Addr} {H H' : Hp} (hp : ∀ dx k h l r n m, H p ≠ some (.ins CN dx (nfl k h l r n m))) (k : ∀ b o, b ≠ p → H b = some o → H' b = some o) : ∀ {t : Tr V} {v : V}, TreeAt CN q H v t → TreeAt CN q H' v t
  | .lf, v, h => h
  | .nd _ _ l r, v, h => by
    obtain ⟨a, dx, lv, rv, e1, e2, e3, e4, e5⟩ := h
    exact ⟨a, dx, lv, rv, e1, e2, k _ _ (fun z => hp _ _ _ _ _ _ _ (by rw [← z]; exact e3)) e3, e4.offk hp k, e5.offk hp k⟩
section
variable {P : Program} {w : World} {K : PySem.W.Frag} {mg : Str → Option Value} {base : Heap} {CN : Addr}
/-! ### level_of, many_of -/
def N_level_of : List Str := ["node"]
theorem sc_level_of : FnScope ["node"] ["node"] (defScope st_level_of) := ⟨rfl, rfl, rfl, by decide +kernel, rfl, by decide +kernel, by decide +kernel⟩
def spLev (CN : Addr) : Sp := fun vs H Q _ => ∃ (q : Addr) (v : V) (t : Tr V), vs = [v] ∧ TreeAt CN q H v t ∧ Q (.int (Mir.lev t : Nat)) H
theorem ok_level_of (d_level_of : Df K mg "level_of" st_level_of ["node"]) (TN : NodeT K CN) : FnOk P w K mg base CX0 1 d_level_of.f d_level_of.fd ["node"] (spLev CN) := by
  refine d_level_of.F.ok sc_level_of (fun vs H Q E h => ?_) (fun cdv A outer s H vs Q E hr h => ?_)
  · obtain ⟨q, v, t, rfl, _⟩ := h
    rfl
  · obtain ⟨q, v, t, rfl, ht, hQ⟩ := h
    have nd := sc_level_of.nd
    refine ⟨_, (pss_cons (ps_if (pt_cmpR op_isN (pv 0) pe_non (nomark _))
    (pss_one (ps_ret pe_int))
    pss_nil)
  (pss_one (ps_ret (pe_fld (pv 0) rfl)))), ?_⟩
    cases t with
    | lf =>
      obtain rfl : v = .non := ht
      refine ⟨_, rfl, rfl, _, rfl, ?_⟩
      rw [non_non]
      exact iteT hQ
    | nd k h l r =>
      obtain ⟨a, dx, lv, rv, rfl, _, ha, _⟩ := ht
      refine ⟨_, rfl, rfl, _, rfl, ?_⟩
      rw [non_ref]
      exact iteF ⟨_, rfl, a, CN, dx, _, _, rfl, ha, TN.cl, TN.nv, nfl_level _ _ _ _ _ _, hQ⟩
def N_many_of : List Str := ["node"]
theorem sc_many_of : FnScope ["node"] ["node"] (defScope st_many_of) := ⟨rfl, rfl, rfl, by decide +kernel, rfl, by decide +kernel, by decide +kernel⟩
def spMany (CN : Addr) : Sp := fun vs H Q _ => ∃ (q : Addr) (v : V) (t : Tr V), vs = [v] ∧ TreeAt CN q H v t ∧ Q (.int (Mir.cnt t : Nat)) H
theorem ok_many_of (d_many_of : Df K mg "many_of" st_many_of ["node"]) (TN : NodeT K CN) : FnOk P w K mg base CX0 1 d_many_of.f d_many_of.fd ["node"] (spMany CN) := by
  refine d_many_of.F.ok sc_many_of (fun vs H Q E h => ?_) (fun cdv A outer s H vs Q E hr h => ?_)
  · obtain ⟨q, v, t, rfl, _⟩ := h
    rfl
  · obtain ⟨q, v, t, rfl, ht, hQ⟩ := h
    have nd := sc_many_of.nd
    refine ⟨_, (pss_cons (ps_if (pt_cmpR op_isN (pv 0) pe_non (nomark _))
    (pss_one (ps_ret pe_int))
    pss_nil)
  (pss_one (ps_ret (pe_fld (pv 0) rfl)))), ?_⟩
    cases t with
    | lf =>
      obtain rfl : v = .non := ht
      refine ⟨_, rfl, rfl, _, rfl, ?_⟩
      rw [non_non]
      exact iteT hQ
    | nd k h l r =>
      obtain ⟨a, dx, lv, rv, rfl, _, ha, _⟩ := ht
      refine ⟨_, rfl, rfl, _, rfl, ?_⟩
      rw [non_ref]
      exact iteF ⟨_, rfl, a, CN, dx, _, _, rfl, ha, TN.cl, TN.nm, nfl_many _ _ _ _ _ _, hQ⟩
/-! ### Node -/
def N_Node___init__ : List Str := ["self", "key", "held", "left", "right"]
theorem sc_Node___init__ : FnScope ["self", "key", "held", "left", "right"] ["self", "key", "held", "left", "right"] (defScope st_Node___init__) := ⟨rfl, rfl, rfl, by decide +kernel, rfl, by decide +kernel, by decide +kernel⟩
def spNode (CN : Addr) : Sp := fun vs H Q _ => ∃ (q p dx : Addr) (k h lv rv : V) (l r : Tr V), vs = [.ref p, k, h, lv, rv] ∧ H p = some (.ins CN dx []) ∧ TreeAt CN q H lv l ∧ TreeAt CN q H rv r ∧
  ∀ H', (∀ b o, b ≠ p → H b = some o → H' b = some o) → H' p = some (.ins CN dx (nfl k h lv rv (Mir.lev (.nd k h l r)) (Mir.cnt (.nd k h l r)))) → Q .non H'
theorem ok_Node (d_Node : Di K mg CN "Node" "Node.__init__" st_Node___init__ ["self", "key", "held", "left", "right"]) (d_level_of : Df K mg "level_of" st_level_of ["node"]) (d_many_of : Df K mg "many_of" st_many_of ["node"]) (TN : NodeT K CN) (mMax : mg "max" = none) : FnOk P w K mg base CX0 2 d_Node.f d_Node.fd ["self", "key", "held", "left", "right"] (spNode CN) := by
  have G_level_of : FnOk P w K mg base CX0 1 d_level_of.f d_level_of.fd ["node"] (spLev CN) := ok_level_of d_level_of TN
  have G_many_of : FnOk P w K mg base CX0 1 d_many_of.f d_many_of.fd ["node"] (spMany CN) := ok_many_of d_many_of TN
  refine d_Node.F.ok sc_Node___init__ (fun vs H Q E h => ?_) (fun cdv A outer s H vs Q E hr h => ?_)
  · obtain ⟨q, p, dx, k, h, lv, rv, l, r, rfl, _⟩ := h
    rfl
  · obtain ⟨q, p, dx, k, h, lv, rv, l, r, rfl, hp, hl, hr', hQ⟩ := h
    have nd := sc_Node___init__.nd
    refine ⟨_, (pss_cons (ps_fld (pv 0) (pv 1) rfl)
  (pss_cons (ps_fld (pv 0) (pv 2) rfl)
  (pss_cons (ps_fld (pv 0) (pv 3) rfl)
  (pss_cons (ps_fld (pv 0) (pv 4) rfl)
  (pss_cons (ps_fld (pv 0) (pe_op op_addE pe_int (pe_callB (call_max2 rfl) (by rfl) mMax (by decide +kernel) (pa_cons (pe_cd (d := d_level_of) G_level_of (hr.mono (by omega)) (pa_cons (pv 3) pa_nil)) (pa_cons (pe_cd (d := d_level_of) G_level_of (hr.mono (by omega)) (pa_cons (pv 4) pa_nil)) pa_nil)))) rfl)
  (pss_one (ps_fld (pv 0) (pe_op op_addE (pe_op op_addE pe_int (pe_cd (d := d_many_of) G_many_of (hr.mono (by omega)) (pa_cons (pv 3) pa_nil))) (pe_cd (d := d_many_of) G_many_of (hr.mono (by omega)) (pa_cons (pv 4) pa_nil))) rfl))))))), ?_⟩
    have hn : ∀ dx' k h l r n m, H p ≠ some (.ins CN dx' (nfl k h l r n m)) := fun dx' k h l r n m z => by
      rw [hp] at z
      cases z
    refine ⟨_, rfl, _, rfl, p, CN, dx, _, rfl, hp, TN.cl, TN.nk, by decide, ?_⟩
    refine ⟨_, rfl, _, rfl, p, CN, dx, _, rfl, upd_same, TN.cl, TN.nh, by simp only [putF, List.length_cons, List.length_nil]; decide, ?_⟩
    refine ⟨_, rfl, _, rfl, p, CN, dx, _, rfl, upd_same, TN.cl, TN.nl, by simp only [putF, if_neg ne_kh, List.length_cons, List.length_nil]; decide, ?_⟩
    refine ⟨_, rfl, _, rfl, p, CN, dx, _, rfl, upd_same, TN.cl, TN.nr, by simp only [putF, if_neg ne_kh, if_neg ne_kl, if_neg ne_hl, List.length_cons, List.length_nil]; decide, ?_⟩
    obtain ⟨H1, e1⟩ : ∃ H1, H1 = upd (upd (upd (upd H p (.ins CN dx (putF "key" k []))) p (.ins CN dx (putF "held" h (putF "key" k [])))) p (.ins CN dx (putF "left" lv (putF "held" h (putF "key" k []))))) p (.ins CN dx (putF "right" rv (putF "left" lv (putF "held" h (putF "key" k []))))) := ⟨_, rfl⟩
    have hp1 : H1 p = some (.ins CN dx (putF "right" rv (putF "left" lv (putF "held" h (putF "key" k []))))) := by rw [e1]; exact upd_same
    have k1 : ∀ b o, b ≠ p → H b = some o → H1 b = some o := fun b o n e => by
      rw [e1, upd_ne n, upd_ne n, upd_ne n, upd_ne n]
      exact e
    rw [← e1]
    clear e1
    refine ⟨_, rfl, q, lv, l, rfl, hl.offk hn k1, _, rfl, q, rv, r, rfl, hr'.offk hn k1, _, _, rfl, _, _, ((Mir.lev (Tr.nd k h l r) : Nat) : Int), rfl, rfl, ?_, _, rfl, p, CN, dx, _, rfl, hp1, TN.cl, TN.nv, ?_, ?_⟩
    · show ((1 + max (Mir.lev l) (Mir.lev r) : Nat) : Int) = 1 + (if (Mir.lev r : Int) > (Mir.lev l : Int) then (Mir.lev r : Int) else (Mir.lev l : Int))
      split <;> omega
    · simp only [putF, if_neg ne_kh, if_neg ne_kl, if_neg ne_hl, if_neg ne_kr, if_neg ne_hr, if_neg ne_lr, List.length_cons, List.length_nil]
      decide
    obtain ⟨H2, e2⟩ : ∃ H2, H2 = upd H1 p (.ins CN dx (putF "level" (.int ((Mir.lev (Tr.nd k h l r) : Nat) : Int)) (putF "right" rv (putF "left" lv (putF "held" h (putF "key" k [])))))) := ⟨_, rfl⟩
    have hp2 : H2 p = some (.ins CN dx (putF "level" (.int ((Mir.lev (Tr.nd k h l r) : Nat) : Int)) (putF "right" rv (putF "left" lv (putF "held" h (putF "key" k [])))))) := by rw [e2]; exact upd_same
    have k2 : ∀ b o, b ≠ p → H b = some o → H2 b = some o := fun b o n e => by
      rw [e2, upd_ne n]
      exact k1 b o n e
    rw [← e2]
    clear e2
    refine ⟨_, rfl, q, lv, l, rfl, hl.offk hn k2, _, _, ((1 + Mir.cnt l : Nat) : Int), rfl, rfl, (by show ((1 + Mir.cnt l : Nat) : Int) = 1 + (Mir.cnt l : Int); omega), _, rfl, q, rv, r, rfl, hr'.offk hn k2, _, _, ((Mir.cnt (Tr.nd k h l r) : Nat) : Int), rfl, rfl, (by show ((1 + Mir.cnt l + Mir.cnt r : Nat) : Int) = ((1 + Mir.cnt l : Nat) : Int) + (Mir.cnt r : Int); omega), _, rfl, p, CN, dx, _, rfl, hp2, TN.cl, TN.nm, ?_, ?_⟩
    · simp only [putF, if_neg ne_kh, if_neg ne_kl, if_neg ne_hl, if_neg ne_kr, if_neg ne_hr, if_neg ne_lr, if_neg ne_kv, if_neg ne_hv, if_neg ne_lv, if_neg ne_rv, List.length_cons, List.length_nil]
      decide
    refine hQ _ (fun b o n e => by rw [upd_ne n]; exact k2 b o n e) ?_
    rw [nfl_put]
    exact upd_same
/-- a node that is made -/
theorem made_tree {q x dx : Addr} {H1 H2 : Hp} {k h lv rv : V} {l r : Tr V} (nq : H1 q ≠ none) (nx : H1 x = none) (ndx : H1 dx = none) (hl : TreeAt CN q H1 lv l) (hr : TreeAt CN q H1 rv r)
    (kp : ∀ b o, b ≠ x → upd (upd H1 dx (.own x)) x (.ins CN dx []) b = some o → H2 b = some o) (hx : H2 x = some (.ins CN dx (nfl k h lv rv (Mir.lev (.nd k h l r)) (Mir.cnt (.nd k h l r))))) : Same H1 H2 ∧ TreeAt CN q H2 (.ref x) (.nd k h l r) := by
  have s : Same H1 H2 := fun b o e => kp b o (ne_of_none e nx) (by rw [upd_ne (ne_of_none e nx), upd_ne (ne_of_none e ndx)]; exact e)
  exact ⟨s, x, dx, lv, rv, rfl, fun z => nq (by rw [← z]; exact nx), hx, hl.same s, hr.same s⟩
/-- the trees that are handed to Node stand ahead of it -/
theorem TreeAt.ahead {q x dx : Addr} {H1 : Hp} {v : V} {t : Tr V} (h : TreeAt CN q H1 v t) (nx : H1 x = none) (ndx : H1 dx = none) : TreeAt CN q (upd (upd H1 dx (.own x)) x (.ins CN dx [])) v t :=
  h.same fun b o e => by rw [upd_ne (ne_of_none e nx), upd_ne (ne_of_none e ndx)]; exact e
/-! ### lean -/
def N_lean : List Str := ["node"]
theorem sc_lean : FnScope ["node"] ["node"] (defScope st_lean) := ⟨rfl, rfl, rfl, by decide +kernel, rfl, by decide +kernel, by decide +kernel⟩
def spLean (CN : Addr) : Sp := fun vs H Q _ => ∃ (q : Addr) (v k h : V) (l r : Tr V), vs = [v] ∧ TreeAt CN q H v (.nd k h l r) ∧ Q (.int ((Mir.lev l : Int) - (Mir.lev r : Int))) H
theorem ok_lean (d_lean : Df K mg "lean" st_lean ["node"]) (d_level_of : Df K mg "level_of" st_level_of ["node"]) (TN : NodeT K CN) : FnOk P w K mg base CX0 2 d_lean.f d_lean.fd ["node"] (spLean CN) := by
  have G_level_of : FnOk P w K mg base CX0 1 d_level_of.f d_level_of.fd ["node"] (spLev CN) := ok_level_of d_level_of TN
  refine d_lean.F.ok sc_lean (fun vs H Q E h => ?_) (fun cdv A outer s H vs Q E hr h => ?_)
  · obtain ⟨q, v, k, h, l, r, rfl, _⟩ := h
    rfl
  · obtain ⟨q, v, k, h, l, r, rfl, ht, hQ⟩ := h
    have nd := sc_lean.nd
    refine ⟨_, (pss_one (ps_ret (pe_op op_subE (pe_cd (d := d_level_of) G_level_of (hr.mono (by omega)) (pa_cons (pe_fld (pv 0) rfl) pa_nil)) (pe_cd (d := d_level_of) G_level_of (hr.mono (by omega)) (pa_cons (pe_fld (pv 0) rfl) pa_nil))))), ?_⟩
    obtain ⟨a, dx, lv, rv, rfl, _, ha, h1, h2⟩ := ht
    exact ⟨_, rfl, a, CN, dx, _, _, rfl, ha, TN.cl, TN.nl, nfl_left _ _ _ _ _ _, q, lv, l, rfl, h1, _, rfl, a, CN, dx, _, _, rfl, ha, TN.cl, TN.nr, nfl_right _ _ _ _ _ _, q, rv, r, rfl, h2, _, _, _, rfl, rfl, rfl, hQ⟩
/-! ### turned nodes -/
def N_right_up : List Str := ["node", "left"]
theorem sc_right_up : FnScope ["node", "left"] ["node"] (defScope st_right_up) := ⟨rfl, rfl, rfl, by decide +kernel, rfl, by decide +kernel, by decide +kernel⟩
def spRup (CN : Addr) : Sp := fun vs H Q _ => ∃ (q : Addr) (v k h k1 h1 : V) (l1 r1 r : Tr V), vs = [v] ∧ H q ≠ none ∧ TreeAt CN q H v (.nd k h (.nd k1 h1 l1 r1) r) ∧ ∀ H' v', Same H H' → TreeAt CN q H' v' (.nd k1 h1 l1 (.nd k h r1 r)) → Q v' H'
theorem ok_right_up (d_right_up : Df K mg "right_up" st_right_up ["node"]) (d_Node : Di K mg CN "Node" "Node.__init__" st_Node___init__ ["self", "key", "held", "left", "right"]) (d_level_of : Df K mg "level_of" st_level_of ["node"]) (d_many_of : Df K mg "many_of" st_many_of ["node"]) (TN : NodeT K CN) (mMax : mg "max" = none) : FnOk P w K mg base CX0 4 d_right_up.f d_right_up.fd ["node"] (spRup CN) := by
  have G_Node : FnOk P w K mg base CX0 2 d_Node.f d_Node.fd ["self", "key", "held", "left", "right"] (spNode CN) := ok_Node d_Node d_level_of d_many_of TN mMax
  refine d_right_up.F.ok sc_right_up (fun vs H Q E h => ?_) (fun cdv A outer s H vs Q E hr h => ?_)
  · obtain ⟨q, v, k, h, k1, h1, l1, r1, r, rfl, _⟩ := h
    rfl
  · obtain ⟨q, v, k, h, k1, h1, l1, r1, r, rfl, nq, ht, hQ⟩ := h
    have nd := sc_right_up.nd
    refine ⟨_, (pss_cons (ps_set (i := 1) nd rfl (Or.inl rfl) (pe_fld (pv 0) rfl))
  (pss_one (ps_ret (pe_mk (d := d_Node) G_Node (hr.mono (by omega)) (pa_cons (pe_fld (pv 1) rfl) (pa_cons (pe_fld (pv 1) rfl) (pa_cons (pe_fld (pv 1) rfl) (pa_cons (pe_mk (d := d_Node) G_Node (hr.mono (by omega)) (pa_cons (pe_fld (pv 0) rfl) (pa_cons (pe_fld (pv 0) rfl) (pa_cons (pe_fld (pv 1) rfl) (pa_cons (pe_fld (pv 0) rfl) pa_nil))))) pa_nil)))))))), ?_⟩
    obtain ⟨a, dx, lv, rv, rfl, _, ha, ⟨b, dy, lv1, rv1, rfl, _, hb, t1, t2⟩, t3⟩ := ht
    refine ⟨_, rfl, a, CN, dx, _, _, rfl, ha, TN.cl, TN.nl, nfl_left _ _ _ _ _ _, ?_⟩
    refine ⟨_, rfl, b, CN, dy, _, _, rfl, hb, TN.cl, TN.nk, nfl_key _ _ _ _ _ _, _, rfl, b, CN, dy, _, _, rfl, hb, TN.cl, TN.nh, nfl_held _ _ _ _ _ _, _, rfl, b, CN, dy, _, _, rfl, hb, TN.cl, TN.nl, nfl_left _ _ _ _ _ _, ?_⟩
    refine ⟨_, rfl, a, CN, dx, _, _, rfl, ha, TN.cl, TN.nk, nfl_key _ _ _ _ _ _, _, rfl, a, CN, dx, _, _, rfl, ha, TN.cl, TN.nh, nfl_held _ _ _ _ _ _, _, rfl, b, CN, dy, _, _, rfl, hb, TN.cl, TN.nr, nfl_right _ _ _ _ _ _, _, rfl, a, CN, dx, _, _, rfl, ha, TN.cl, TN.nr, nfl_right _ _ _ _ _ _, ?_⟩
    intro x dz nx ndz nex
    refine ⟨q, x, dz, k, h, rv1, rv, r1, r, rfl, upd_same, t2.ahead nx ndz, t3.ahead nx ndz, fun H2 kp hx => ⟨rfl, ?_⟩⟩
    obtain ⟨s2, t4⟩ := made_tree nq nx ndz t2 t3 kp hx
    intro y dw ny ndw ney
    have t1' := t1.same s2
    have nq2 : H2 q ≠ none := fun z => by
      cases e : H q with
      | none => exact nq e
      | some o =>
        rw [s2 _ _ e] at z
        cases z
    refine ⟨q, y, dw, k1, h1, lv1, .ref x, l1, .nd k h r1 r, rfl, upd_same, t1'.ahead ny ndw, t4.ahead ny ndw, fun H3 kp3 hy => ⟨rfl, ?_⟩⟩
    obtain ⟨s3, t5⟩ := made_tree nq2 ny ndw t1' t4 kp3 hy
    exact hQ H3 _ (s2.trans s3) t5
def N_left_up : List Str := ["node", "right"]
theorem sc_left_up : FnScope ["node", "right"] ["node"] (defScope st_left_up) := ⟨rfl, rfl, rfl, by decide +kernel, rfl, by decide +kernel, by decide +kernel⟩
def spLup (CN : Addr) : Sp := fun vs H Q _ => ∃ (q : Addr) (v k h k1 h1 : V) (l l1 r1 : Tr V), vs = [v] ∧ H q ≠ none ∧ TreeAt CN q H v (.nd k h l (.nd k1 h1 l1 r1)) ∧ ∀ H' v', Same H H' → TreeAt CN q H' v' (.nd k1 h1 (.nd k h l l1) r1) → Q v' H'
theorem ok_left_up (d_left_up : Df K mg "left_up" st_left_up ["node"]) (d_Node : Di K mg CN "Node" "Node.__init__" st_Node___init__ ["self", "key", "held", "left", "right"]) (d_level_of : Df K mg "level_of" st_level_of ["node"]) (d_many_of : Df K mg "many_of" st_many_of ["node"]) (TN : NodeT K CN) (mMax : mg "max" = none) : FnOk P w K mg base CX0 4 d_left_up.f d_left_up.fd ["node"] (spLup CN) := by
  have G_Node : FnOk P w K mg base CX0 2 d_Node.f d_Node.fd ["self", "key", "held", "left", "right"] (spNode CN) := ok_Node d_Node d_level_of d_many_of TN mMax
  refine d_left_up.F.ok sc_left_up (fun vs H Q E h => ?_) (fun cdv A outer s H vs Q E hr h => ?_)
  · obtain ⟨q, v, k, h, k1, h1, l, l1, r1, rfl, _⟩ := h
    rfl
  · obtain ⟨q, v, k, h, k1, h1, l, l1, r1, rfl, nq, ht, hQ⟩ := h
    have nd := sc_left_up.nd
    refine ⟨_, (pss_cons (ps_set (i := 1) nd rfl (Or.inl rfl) (pe_fld (pv 0) rfl))
  (pss_one (ps_ret (pe_mk (d := d_Node) G_Node (hr.mono (by omega)) (pa_cons (pe_fld (pv 1) rfl) (pa_cons (pe_fld (pv 1) rfl) (pa_cons (pe_mk (d := d_Node) G_Node (hr.mono (by omega)) (pa_cons (pe_fld (pv 0) rfl) (pa_cons (pe_fld (pv 0) rfl) (pa_cons (pe_fld (pv 0) rfl) (pa_cons (pe_fld (pv 1) rfl) pa_nil))))) (pa_cons (pe_fld (pv 1) rfl) pa_nil)))))))), ?_⟩
    obtain ⟨a, dx, lv, rv, rfl, _, ha, t3, ⟨b, dy, lv1, rv1, rfl, _, hb, t1, t2⟩⟩ := ht
    refine ⟨_, rfl, a, CN, dx, _, _, rfl, ha, TN.cl, TN.nr, nfl_right _ _ _ _ _ _, ?_⟩
    refine ⟨_, rfl, b, CN, dy, _, _, rfl, hb, TN.cl, TN.nk, nfl_key _ _ _ _ _ _, _, rfl, b, CN, dy, _, _, rfl, hb, TN.cl, TN.nh, nfl_held _ _ _ _ _ _, ?_⟩
    refine ⟨_, rfl, a, CN, dx, _, _, rfl, ha, TN.cl, TN.nk, nfl_key _ _ _ _ _ _, _, rfl, a, CN, dx, _, _, rfl, ha, TN.cl, TN.nh, nfl_held _ _ _ _ _ _, _, rfl, a, CN, dx, _, _, rfl, ha, TN.cl, TN.nl, nfl_left _ _ _ _ _ _, _, rfl, b, CN, dy, _, _, rfl, hb, TN.cl, TN.nl, nfl_left _ _ _ _ _ _, ?_⟩
    intro x dz nx ndz nex
    refine ⟨q, x, dz, k, h, lv, lv1, l, l1, rfl, upd_same, t3.ahead nx ndz, t1.ahead nx ndz, fun H2 kp hx => ⟨rfl, ?_⟩⟩
    obtain ⟨s2, t4⟩ := made_tree nq nx ndz t3 t1 kp hx
    refine ⟨_, rfl, b, CN, dy, _, _, rfl, s2 _ _ hb, TN.cl, TN.nr, nfl_right _ _ _ _ _ _, ?_⟩
    intro y dw ny ndw ney
    have t2' := t2.same s2
    have nq2 : H2 q ≠ none := fun z => by
      cases e : H q with
      | none => exact nq e
      | some o =>
        rw [s2 _ _ e] at z
        cases z
    refine ⟨q, y, dw, k1, h1, .ref x, rv1, .nd k h l l1, r1, rfl, upd_same, t4.ahead ny ndw, t2'.ahead ny ndw, fun H3 kp3 hy => ⟨rfl, ?_⟩⟩
    obtain ⟨s3, t5⟩ := made_tree nq2 ny ndw t4 t2' kp3 hy
    exact hQ H3 _ (s2.trans s3) t5
end
end Ord

set_option pp.deepTerms false
set_option pp.maxSteps 1500
namespace Ord
open PySem PySem.Spec PyProof.Rows L2 LamX
open Mir (Tr)
theorem nn_same {H H' : Hp} {q : Addr} (s : Same H H') (n : H q ≠ none) : H' q ≠ none := fun z => by
  cases e : H q with
  | none => exact n e
  | some o =>
    rw [s _ _ e] at z
    cases z
section
variable {P : Program} {w : World} {K : PySem.W.Frag} {mg : Str → Option Value} {base : Heap} {CN : Addr}
/-! ### even -/
def N_even : List Str := ["key", "held", "left", "right", "node"]
theorem sc_even : FnScope ["key", "held", "left", "right", "node"] ["key", "held", "left", "right"] (defScope st_even) := ⟨rfl, rfl, rfl, by decide +kernel, rfl, by decide +kernel, by decide +kernel⟩
def spEven (CN : Addr) : Sp := fun vs H Q _ => ∃ (q : Addr) (k h lv rv : V) (l r : Tr V), vs = [k, h, lv, rv] ∧ H q ≠ none ∧ TreeAt CN q H lv l ∧ TreeAt CN q H rv r ∧ ∀ H' v', Same H H' → TreeAt CN q H' v' (Mir.evn k h l r) → Q v' H'
theorem ok_even (d_even : Df K mg "even" st_even ["key", "held", "left", "right"]) (d_lean : Df K mg "lean" st_lean ["node"]) (d_right_up : Df K mg "right_up" st_right_up ["node"]) (d_left_up : Df K mg "left_up" st_left_up ["node"]) (d_Node : Di K mg CN "Node" "Node.__init__" st_Node___init__ ["self", "key", "held", "left", "right"]) (d_level_of : Df K mg "level_of" st_level_of ["node"]) (d_many_of : Df K mg "many_of" st_many_of ["node"]) (TN : NodeT K CN) (mMax : mg "max" = none) : FnOk P w K mg base CX0 5 d_even.f d_even.fd ["key", "held", "left", "right"] (spEven CN) := by
  have G_Node : FnOk P w K mg base CX0 2 d_Node.f d_Node.fd ["self", "key", "held", "left", "right"] (spNode CN) := ok_Node d_Node d_level_of d_many_of TN mMax
  have G_lean : FnOk P w K mg base CX0 2 d_lean.f d_lean.fd ["node"] (spLean CN) := ok_lean d_lean d_level_of TN
  have G_right_up : FnOk P w K mg base CX0 4 d_right_up.f d_right_up.fd ["node"] (spRup CN) := ok_right_up d_right_up d_Node d_level_of d_many_of TN mMax
  have G_left_up : FnOk P w K mg base CX0 4 d_left_up.f d_left_up.fd ["node"] (spLup CN) := ok_left_up d_left_up d_Node d_level_of d_many_of TN mMax
  refine d_even.F.ok sc_even (fun vs H Q E h => ?_) (fun cdv A outer s H vs Q E hr h => ?_)
  · obtain ⟨q, k, h, lv, rv, l, r, rfl, _⟩ := h
    rfl
  · obtain ⟨q, k, h, lv, rv, l, r, rfl, nq, hl, hrr, hQ⟩ := h
    have nd := sc_even.nd
    refine ⟨_, (pss_cons (ps_set (i := 4) nd rfl (Or.inl rfl) (pe_mk (d := d_Node) G_Node (hr.mono (by omega)) (pa_cons (pv 0) (pa_cons (pv 1) (pa_cons (pv 2) (pa_cons (pv 3) pa_nil))))))
  (pss_cons (ps_if (pt_cmpR op_gt (pe_cd (d := d_lean) G_lean (hr.mono (by omega)) (pa_cons (pv 4) pa_nil)) pe_int (nomark _))
    (C8.pss_cut (ps_if (pt_cmpR op_lt (pe_cd (d := d_lean) G_lean (hr.mono (by omega)) (pa_cons (pv 2) pa_nil)) pe_int (nomark _))
    (pss_one (ps_set (i := 2) nd rfl (Or.inl rfl) (pe_cd (d := d_left_up) G_left_up (hr.mono (by omega)) (pa_cons (pv 2) pa_nil))))
    pss_nil)
  (pss_one (ps_ret (pe_cd (d := d_right_up) G_right_up (hr.mono (by omega)) (pa_cons (pe_mk (d := d_Node) G_Node (hr.mono (by omega)) (pa_cons (pv 0) (pa_cons (pv 1) (pa_cons (pv 2) (pa_cons (pv 3) pa_nil))))) pa_nil)))))
    pss_nil)
  (pss_cons (ps_if (pt_cmpR op_lt (pe_cd (d := d_lean) G_lean (hr.mono (by omega)) (pa_cons (pv 4) pa_nil)) (pe_un un_neg pe_int) (nomark _))
    (C8.pss_cut (ps_if (pt_cmpR op_gt (pe_cd (d := d_lean) G_lean (hr.mono (by omega)) (pa_cons (pv 3) pa_nil)) pe_int (nomark _))
    (pss_one (ps_set (i := 3) nd rfl (Or.inl rfl) (pe_cd (d := d_right_up) G_right_up (hr.mono (by omega)) (pa_cons (pv 3) pa_nil))))
    pss_nil)
  (pss_one (ps_ret (pe_cd (d := d_left_up) G_left_up (hr.mono (by omega)) (pa_cons (pe_mk (d := d_Node) G_Node (hr.mono (by omega)) (pa_cons (pv 0) (pa_cons (pv 1) (pa_cons (pv 2) (pa_cons (pv 3) pa_nil))))) pa_nil)))))
    pss_nil)
  (pss_one (ps_ret (pv 4)))))), ?_⟩
    refine ⟨_, rfl, _, rfl, _, rfl, _, rfl, ?_⟩
    intro x dz nx ndz nex
    refine ⟨q, x, dz, k, h, lv, rv, l, r, rfl, upd_same, hl.ahead nx ndz, hrr.ahead nx ndz, fun H2 kp hx => ⟨rfl, ?_⟩⟩
    obtain ⟨s2, t2⟩ := made_tree nq nx ndz hl hrr kp hx
    have nq2 := nn_same s2 nq
    have hl2 := hl.same s2
    have hr2 := hrr.same s2
    refine ⟨_, rfl, q, _, k, h, l, r, rfl, t2, _, _, rfl, rfl, _, rfl, ?_⟩
    refine iteD (fun c1 => ?_) (fun c1 => ?_)
    · have c1' : 1 < (Mir.lev l : Int) - (Mir.lev r : Int) := c1
      have ev : Mir.evn k h l r = Mir.rup (.nd k h (if Mir.lean l < 0 then Mir.lup l else l) r) := if_pos c1'
      rw [ev] at hQ
      clear ev
      cases l with
      | lf => simp [Mir.lev] at c1'; omega
      | nd k1 g1 l1 r1 =>
        refine ⟨fun σ H3 => ∃ (lv' k2 g2 : V) (l2 r2 : Tr V) (v4 : Option V), σ = [some k, some h, some lv', some rv, v4] ∧ Same H H3 ∧ TreeAt CN q H3 lv' (.nd k2 g2 l2 r2) ∧ (if Mir.lean (Tr.nd k1 g1 l1 r1) < 0 then Mir.lup (Tr.nd k1 g1 l1 r1) else Tr.nd k1 g1 l1 r1) = .nd k2 g2 l2 r2, ?_, ?_⟩
        · refine ⟨_, rfl, q, lv, k1, g1, l1, r1, rfl, hl2, _, _, rfl, rfl, _, rfl, ?_⟩
          refine iteD (fun c2 => ?_) (fun c2 => ?_)
          · have c2' : (Mir.lev l1 : Int) - (Mir.lev r1 : Int) < 0 := c2
            cases r1 with
            | lf => simp [Mir.lev] at c2'; omega
            | nd k3 g3 l3 r3 =>
              refine ⟨_, rfl, q, lv, k1, g1, k3, g3, l1, l3, r3, rfl, nq2, hl2, fun H3 v3 s3 t3 => ?_⟩
              exact ⟨v3, k3, g3, _, _, _, rfl, s2.trans s3, t3, if_pos c2'⟩
          · have c2' : ¬ (Mir.lev l1 : Int) - (Mir.lev r1 : Int) < 0 := c2
            exact ⟨lv, k1, g1, l1, r1, _, rfl, s2, hl2, if_neg c2'⟩
        rintro σ H3 ⟨lv', k2, g2, l2, r2, v4, rfl, s3, t3, e2⟩
        rw [e2] at hQ
        have nq3 := nn_same s3 nq
        have hr3 := hrr.same s3
        refine ⟨_, rfl, _, rfl, _, rfl, _, rfl, ?_⟩
        intro y dw ny ndw ney
        refine ⟨q, y, dw, k, h, lv', rv, .nd k2 g2 l2 r2, r, rfl, upd_same, t3.ahead ny ndw, hr3.ahead ny ndw, fun H4 kp4 hy => ⟨rfl, ?_⟩⟩
        obtain ⟨s4, t4⟩ := made_tree nq3 ny ndw t3 hr3 kp4 hy
        refine ⟨q, _, k, h, k2, g2, l2, r2, r, rfl, nn_same s4 nq3, t4, fun H5 v5 s5 t5 => ?_⟩
        exact hQ H5 v5 ((s3.trans s4).trans s5) t5
    · have c1' : ¬ 1 < (Mir.lev l : Int) - (Mir.lev r : Int) := c1
      refine ⟨_, rfl, q, _, k, h, l, r, rfl, t2, _, rfl, _, _, rfl, rfl, _, rfl, ?_⟩
      refine iteD (fun c2 => ?_) (fun c2 => ?_)
      · have c2' : (Mir.lev l : Int) - (Mir.lev r : Int) < -1 := c2
        have ev : Mir.evn k h l r = Mir.lup (.nd k h l (if 0 < Mir.lean r then Mir.rup r else r)) := (if_neg c1').trans (if_pos c2')
        rw [ev] at hQ
        clear ev
        cases r with
        | lf => simp [Mir.lev] at c2'; omega
        | nd k1 g1 l1 r1 =>
          refine ⟨fun σ H3 => ∃ (rv' k2 g2 : V) (l2 r2 : Tr V) (v4 : Option V), σ = [some k, some h, some lv, some rv', v4] ∧ Same H H3 ∧ TreeAt CN q H3 rv' (.nd k2 g2 l2 r2) ∧ (if 0 < Mir.lean (Tr.nd k1 g1 l1 r1) then Mir.rup (Tr.nd k1 g1 l1 r1) else Tr.nd k1 g1 l1 r1) = .nd k2 g2 l2 r2, ?_, ?_⟩
          · refine ⟨_, rfl, q, rv, k1, g1, l1, r1, rfl, hr2, _, _, rfl, rfl, _, rfl, ?_⟩
            refine iteD (fun c3 => ?_) (fun c3 => ?_)
            · have c3' : 0 < (Mir.lev l1 : Int) - (Mir.lev r1 : Int) := c3
              cases l1 with
              | lf => simp [Mir.lev] at c3'; omega
              | nd k3 g3 l3 r3 =>
                refine ⟨_, rfl, q, rv, k1, g1, k3, g3, l3, r3, r1, rfl, nq2, hr2, fun H3 v3 s3 t3 => ?_⟩
                exact ⟨v3, k3, g3, _, _, _, rfl, s2.trans s3, t3, if_pos c3'⟩
            · have c3' : ¬ 0 < (Mir.lev l1 : Int) - (Mir.lev r1 : Int) := c3
              exact ⟨rv, k1, g1, l1, r1, _, rfl, s2, hr2, if_neg c3'⟩
          rintro σ H3 ⟨rv', k2, g2, l2, r2, v4, rfl, s3, t3, e2⟩
          rw [e2] at hQ
          have nq3 := nn_same s3 nq
          have hl3 := hl.same s3
          refine ⟨_, rfl, _, rfl, _, rfl, _, rfl, ?_⟩
          intro y dw ny ndw ney
          refine ⟨q, y, dw, k, h, lv, rv', l, .nd k2 g2 l2 r2, rfl, upd_same, hl3.ahead ny ndw, t3.ahead ny ndw, fun H4 kp4 hy => ⟨rfl, ?_⟩⟩
          obtain ⟨s4, t4⟩ := made_tree nq3 ny ndw hl3 t3 kp4 hy
          refine ⟨q, _, k, h, k2, g2, l, l2, r2, rfl, nn_same s4 nq3, t4, fun H5 v5 s5 t5 => ?_⟩
          exact hQ H5 v5 ((s3.trans s4).trans s5) t5
      · have c2' : ¬ (Mir.lev l : Int) - (Mir.lev r : Int) < -1 := c2
        have ev : Mir.evn k h l r = .nd k h l r := (if_neg c1').trans (if_neg c2')
        rw [ev] at hQ
        exact ⟨_, rfl, hQ H2 _ s2 t2⟩
/-! ### with_key -/
def N_with_key : List Str := ["node", "key", "held", "order", "side", "left", "is_new", "right"]
theorem sc_with_key : FnScope ["node", "key", "held", "order", "side", "left", "is_new", "right"] ["node", "key", "held", "order"] (defScope st_with_key) := ⟨rfl, rfl, rfl, by decide +kernel, rfl, by decide +kernel, by decide +kernel⟩
/-- all keys of a tree may be asked of -/
def TDom (O : Orc P w K mg base) (t : Tr V) (H : Hp) : Prop := ∀ x ∈ Mir.toL t, O.Dom x.1 H
theorem TDom.tk {O : Orc P w K mg base} {t : Tr V} {H H' : Hp} (h : TDom O t H) (k : TK H H') : TDom O t H' := fun x hx => O.dom k (h x hx)
theorem TDom.l {O : Orc P w K mg base} {k g : V} {l r : Tr V} {H : Hp} (h : TDom O (.nd k g l r) H) : TDom O l H := fun x hx => h x (by rw [Mir.toL]; exact List.mem_append_left _ hx)
theorem TDom.r {O : Orc P w K mg base} {k g : V} {l r : Tr V} {H : Hp} (h : TDom O (.nd k g l r) H) : TDom O r H := fun x hx => h x (by rw [Mir.toL]; exact List.mem_append_right _ (List.mem_cons_of_mem _ hx))
theorem TDom.k {O : Orc P w K mg base} {k g : V} {l r : Tr V} {H : Hp} (h : TDom O (.nd k g l r) H) : O.Dom k H := h (k, g) (by rw [Mir.toL]; exact List.mem_append_right _ List.mem_cons_self)
def spWk (P : Program) (w : World) (K : PySem.W.Frag) (mg : Str → Option Value) (base : Heap) (CN : Addr) (n : Nat) : Sp := fun vs H Q _ => ∃ (O : Orc P w K mg base) (v key held : V) (t : Tr V) (l : Lg), vs = [v, key, held, .ref O.f] ∧
  TreeAt CN O.q H v t ∧ Mir.lev t ≤ n ∧ O.Log l H ∧ TDom O t H ∧ O.Dom key H ∧ l.length + Mir.lev t ≤ 90000 ∧
  ∀ H' tu v', KB O.q H H' → TreeAt CN O.q H' v' (Mir.wk O.ans t key held l).1 → H' tu = some (.tup [v', .bl (Mir.wk O.ans t key held l).2.1]) → O.Log (Mir.wk O.ans t key held l).2.2 H' → Q (.ref tu) H'
theorem ok_with_key (d_with_key : Df K mg "with_key" st_with_key ["node", "key", "held", "order"]) (d_even : Df K mg "even" st_even ["key", "held", "left", "right"]) (d_lean : Df K mg "lean" st_lean ["node"]) (d_right_up : Df K mg "right_up" st_right_up ["node"]) (d_left_up : Df K mg "left_up" st_left_up ["node"]) (d_Node : Di K mg CN "Node" "Node.__init__" st_Node___init__ ["self", "key", "held", "left", "right"]) (d_level_of : Df K mg "level_of" st_level_of ["node"]) (d_many_of : Df K mg "many_of" st_many_of ["node"]) (TN : NodeT K CN) (mMax : mg "max" = none) : ∀ n, FnOk P w K mg base CX0 (n + 6) d_with_key.f d_with_key.fd ["node", "key", "held", "order"] (spWk P w K mg base CN n) := by
  have G_Node : FnOk P w K mg base CX0 2 d_Node.f d_Node.fd ["self", "key", "held", "left", "right"] (spNode CN) := ok_Node d_Node d_level_of d_many_of TN mMax
  have G_even : FnOk P w K mg base CX0 5 d_even.f d_even.fd ["key", "held", "left", "right"] (spEven CN) := ok_even d_even d_lean d_right_up d_left_up d_Node d_level_of d_many_of TN mMax
  intro n
  induction n with
  | zero =>
    have G_with_key : FnOk P w K mg base CX0 0 d_with_key.f d_with_key.fd ["node", "key", "held", "order"] (fun _ _ _ _ => False) := ⟨fun _ _ _ _ h => h.elim, fun _ _ _ _ _ _ _ _ _ _ _ _ _ h => h.elim⟩
    refine d_with_key.F.ok sc_with_key (fun vs H Q E h => ?_) (fun cdv A outer s H vs Q E hr h => ?_)
    · obtain ⟨O, v, key, held, t, l, rfl, _⟩ := h
      rfl
    · obtain ⟨O, v, key, held, t, l, rfl, ht, hlv, hL, hD, hk, hc, hQ⟩ := h
      have nd := sc_with_key.nd
      refine ⟨_, (pss_cons (ps_if (pt_cmpR op_isN (pv 0) pe_non (nomark _))
    (pss_one (ps_ret (pe_tup (pa_cons (pe_mk (d := d_Node) G_Node (hr.mono (by omega)) (pa_cons (pv 1) (pa_cons (pv 2) (pa_cons pe_non (pa_cons pe_non pa_nil))))) (pa_cons pe_bl pa_nil)))))
    pss_nil)
  (pss_cons (ps_set (i := 4) nd rfl (Or.inl rfl) (pe_callV O.run (hr.mono (by omega)) (pa_cons (pe_fld (pv 0) rfl) (pa_cons (pv 1) pa_nil)) (i := 3)))
  (pss_cons (ps_if (pt_cmpR op_eq (pv 4) pe_int (nomark _))
    (pss_one (ps_ret (pe_tup (pa_cons (pe_mk (d := d_Node) G_Node (hr.mono (by omega)) (pa_cons (pe_fld (pv 0) rfl) (pa_cons (pv 2) (pa_cons (pe_fld (pv 0) rfl) (pa_cons (pe_fld (pv 0) rfl) pa_nil))))) (pa_cons pe_bl pa_nil)))))
    pss_nil)
  (pss_cons (ps_if (pt_cmpR op_gt (pv 4) pe_int (nomark _))
    (pss_cons (ps_asg (pe_cd (d := d_with_key) G_with_key (hr.mono (by omega)) (pa_cons (pe_fld (pv 0) rfl) (pa_cons (pv 1) (pa_cons (pv 2) (pa_cons (pv 3) pa_nil))))) (pg_tup (by rfl) (pgs_cons (pg_name (i := 5) nd rfl (Or.inl rfl)) (pgs_cons (pg_name (i := 6) nd rfl (Or.inl rfl)) pgs_nil))))
  (pss_one (ps_ret (pe_tup (pa_cons (pe_cd (d := d_even) G_even (hr.mono (by omega)) (pa_cons (pe_fld (pv 0) rfl) (pa_cons (pe_fld (pv 0) rfl) (pa_cons (pv 5) (pa_cons (pe_fld (pv 0) rfl) pa_nil))))) (pa_cons (pv 6) pa_nil))))))
    pss_nil)
  (pss_cons (ps_asg (pe_cd (d := d_with_key) G_with_key (hr.mono (by omega)) (pa_cons (pe_fld (pv 0) rfl) (pa_cons (pv 1) (pa_cons (pv 2) (pa_cons (pv 3) pa_nil))))) (pg_tup (by rfl) (pgs_cons (pg_name (i := 7) nd rfl (Or.inl rfl)) (pgs_cons (pg_name (i := 6) nd rfl (Or.inl rfl)) pgs_nil))))
  (pss_one (ps_ret (pe_tup (pa_cons (pe_cd (d := d_even) G_even (hr.mono (by omega)) (pa_cons (pe_fld (pv 0) rfl) (pa_cons (pe_fld (pv 0) rfl) (pa_cons (pe_fld (pv 0) rfl) (pa_cons (pv 7) pa_nil))))) (pa_cons (pv 6) pa_nil)))))))))), ?_⟩
      cases t with
      | nd k g l r => simp [Mir.lev] at hlv
      | lf =>
        obtain rfl : v = .non := ht
        refine ⟨_, rfl, rfl, _, rfl, ?_⟩
        rw [non_non]
        refine iteT ?_
        have nq := O.isq hL
        refine ⟨_, rfl, _, rfl, ?_⟩
        intro x dz nx ndz nex
        refine ⟨O.q, x, dz, key, held, .non, .non, .lf, .lf, rfl, upd_same, rfl, rfl, fun H2 kp hx => ⟨rfl, ?_⟩⟩
        obtain ⟨s2, t2⟩ := made_tree (CN := CN) (q := O.q) (k := key) (h := held) (lv := .non) (rv := .non) (l := .lf) (r := .lf) nq nx ndz rfl rfl kp hx
        refine ⟨by show 2 ≤ sizeLine; decide, fun tu ntu => ?_⟩
        have s3 := s2.trans (Same.new (o := .tup [.ref x, .bl true]) ntu)
        exact hQ _ tu (.ref x) (KB.of_same s3) (t2.same (Same.new ntu)) upd_same (O.stay (Stay.of_same s3) hL)
  | succ n ih =>
    have G_with_key := ih
    refine d_with_key.F.ok sc_with_key (fun vs H Q E h => ?_) (fun cdv A outer s H vs Q E hr h => ?_)
    · obtain ⟨O, v, key, held, t, l, rfl, _⟩ := h
      rfl
    · obtain ⟨O, v, key, held, t, lg, rfl, ht, hlv, hL, hD, hk, hc, hQ⟩ := h
      have nd := sc_with_key.nd
      refine ⟨_, (pss_cons (ps_if (pt_cmpR op_isN (pv 0) pe_non (nomark _))
    (pss_one (ps_ret (pe_tup (pa_cons (pe_mk (d := d_Node) G_Node (hr.mono (by omega)) (pa_cons (pv 1) (pa_cons (pv 2) (pa_cons pe_non (pa_cons pe_non pa_nil))))) (pa_cons pe_bl pa_nil)))))
    pss_nil)
  (pss_cons (ps_set (i := 4) nd rfl (Or.inl rfl) (pe_callV O.run (hr.mono (by omega)) (pa_cons (pe_fld (pv 0) rfl) (pa_cons (pv 1) pa_nil)) (i := 3)))
  (pss_cons (ps_if (pt_cmpR op_eq (pv 4) pe_int (nomark _))
    (pss_one (ps_ret (pe_tup (pa_cons (pe_mk (d := d_Node) G_Node (hr.mono (by omega)) (pa_cons (pe_fld (pv 0) rfl) (pa_cons (pv 2) (pa_cons (pe_fld (pv 0) rfl) (pa_cons (pe_fld (pv 0) rfl) pa_nil))))) (pa_cons pe_bl pa_nil)))))
    pss_nil)
  (pss_cons (ps_if (pt_cmpR op_gt (pv 4) pe_int (nomark _))
    (pss_cons (ps_asg (pe_cd (d := d_with_key) G_with_key (hr.mono (by omega)) (pa_cons (pe_fld (pv 0) rfl) (pa_cons (pv 1) (pa_cons (pv 2) (pa_cons (pv 3) pa_nil))))) (pg_tup (by rfl) (pgs_cons (pg_name (i := 5) nd rfl (Or.inl rfl)) (pgs_cons (pg_name (i := 6) nd rfl (Or.inl rfl)) pgs_nil))))
  (pss_one (ps_ret (pe_tup (pa_cons (pe_cd (d := d_even) G_even (hr.mono (by omega)) (pa_cons (pe_fld (pv 0) rfl) (pa_cons (pe_fld (pv 0) rfl) (pa_cons (pv 5) (pa_cons (pe_fld (pv 0) rfl) pa_nil))))) (pa_cons (pv 6) pa_nil))))))
    pss_nil)
  (pss_cons (ps_asg (pe_cd (d := d_with_key) G_with_key (hr.mono (by omega)) (pa_cons (pe_fld (pv 0) rfl) (pa_cons (pv 1) (pa_cons (pv 2) (pa_cons (pv 3) pa_nil))))) (pg_tup (by rfl) (pgs_cons (pg_name (i := 7) nd rfl (Or.inl rfl)) (pgs_cons (pg_name (i := 6) nd rfl (Or.inl rfl)) pgs_nil))))
  (pss_one (ps_ret (pe_tup (pa_cons (pe_cd (d := d_even) G_even (hr.mono (by omega)) (pa_cons (pe_fld (pv 0) rfl) (pa_cons (pe_fld (pv 0) rfl) (pa_cons (pe_fld (pv 0) rfl) (pa_cons (pv 7) pa_nil))))) (pa_cons (pv 6) pa_nil)))))))))), ?_⟩
      have nq := O.isq hL
      cases t with
      | lf =>
        obtain rfl : v = .non := ht
        refine ⟨_, rfl, rfl, _, rfl, ?_⟩
        rw [non_non]
        refine iteT ?_
        refine ⟨_, rfl, _, rfl, ?_⟩
        intro x dz nx ndz nex
        refine ⟨O.q, x, dz, key, held, .non, .non, .lf, .lf, rfl, upd_same, rfl, rfl, fun H2 kp hx => ⟨rfl, ?_⟩⟩
        obtain ⟨s2, t2⟩ := made_tree (CN := CN) (q := O.q) (k := key) (h := held) (lv := .non) (rv := .non) (l := .lf) (r := .lf) nq nx ndz rfl rfl kp hx
        refine ⟨by show 2 ≤ sizeLine; decide, fun tu ntu => ?_⟩
        have s3 := s2.trans (Same.new (o := .tup [.ref x, .bl true]) ntu)
        exact hQ _ tu (.ref x) (KB.of_same s3) (t2.same (Same.new ntu)) upd_same (O.stay (Stay.of_same s3) hL)
      | nd k g l r =>
        have hlv' : 1 + max (Mir.lev l) (Mir.lev r) ≤ n + 1 := hlv
        have hc' : lg.length + (1 + max (Mir.lev l) (Mir.lev r)) ≤ 90000 := hc
        have ht0 := ht
        obtain ⟨a, dx, lv, rv, rfl, aq, ha, h1, h2⟩ := ht
        refine ⟨_, rfl, rfl, _, rfl, ?_⟩
        rw [non_ref]
        refine iteF ?_
        -- the question
        refine ⟨rfl, O.isf hL, _, rfl, a, CN, dx, _, _, rfl, ha, TN.cl, TN.nk, nfl_key _ _ _ _ _ _, _, rfl, O.isf hL, k, key, lg, rfl, hL, by omega, hD.k, hk, fun H1 kb1 hL1 => ?_⟩
        have ha1 := kb1.keep _ _ aq ha
        have h11 := h1.kb kb1
        have h21 := h2.kb kb1
        have nq1 := O.isq hL1
        obtain ⟨sd, esd⟩ : ∃ sd, sd = O.ans lg k key := ⟨_, rfl⟩
        have wk0 : Mir.wk O.ans (.nd k g l r) key held lg = if sd = 0 then (.nd k held l r, false, lg ++ [(k, key)]) else if 0 < sd then (Mir.evn k g (Mir.wk O.ans l key held (lg ++ [(k, key)])).1 r, (Mir.wk O.ans l key held (lg ++ [(k, key)])).2.1, (Mir.wk O.ans l key held (lg ++ [(k, key)])).2.2) else (Mir.evn k g l (Mir.wk O.ans r key held (lg ++ [(k, key)])).1, (Mir.wk O.ans r key held (lg ++ [(k, key)])).2.1, (Mir.wk O.ans r key held (lg ++ [(k, key)])).2.2) := by
          rw [esd]
          rfl
        rw [wk0] at hQ
        rw [← esd]
        clear wk0
        refine ⟨_, rfl, rfl, _, rfl, iteI (fun c1 => ?_) (fun c1 => ?_)⟩
        · rw [if_pos c1] at hQ
          refine ⟨_, rfl, a, CN, dx, _, _, rfl, ha1, TN.cl, TN.nk, nfl_key _ _ _ _ _ _, _, rfl, _, rfl, a, CN, dx, _, _, rfl, ha1, TN.cl, TN.nl, nfl_left _ _ _ _ _ _, _, rfl, a, CN, dx, _, _, rfl, ha1, TN.cl, TN.nr, nfl_right _ _ _ _ _ _, ?_⟩
          intro x dz nx ndz nex
          refine ⟨O.q, x, dz, k, held, lv, rv, l, r, rfl, upd_same, h11.ahead nx ndz, h21.ahead nx ndz, fun H2 kp hx => ⟨rfl, ?_⟩⟩
          obtain ⟨s2, t2⟩ := made_tree nq1 nx ndz h11 h21 kp hx
          refine ⟨by show 2 ≤ sizeLine; decide, fun tu ntu => ?_⟩
          have s3 := s2.trans (Same.new (o := .tup [.ref x, .bl false]) ntu)
          exact hQ _ tu (.ref x) (kb1.trans (KB.of_same s3)) (t2.same (Same.new ntu)) upd_same (O.stay (Stay.of_same s3) hL1)
        rw [if_neg c1] at hQ
        refine ⟨_, rfl, _, _, rfl, rfl, _, rfl, ?_⟩
        refine iteD (fun c2 => ?_) (fun c2 => ?_)
        · have c2' : 0 < sd := c2
          rw [if_pos c2'] at hQ
          refine ⟨_, rfl, a, CN, dx, _, _, rfl, ha1, TN.cl, TN.nl, nfl_left _ _ _ _ _ _, _, rfl, _, rfl, _, rfl, O, lv, key, held, l, _, rfl, h11, by omega, hL1, (hD.l).tk kb1.tk, O.dom kb1.tk hk, by rw [List.length_append, List.length_singleton]; omega, fun H2 tu v2 kb2 t2 htu hL2 => ?_⟩
          refine ⟨tu, _, rfl, SqT.of htu, rfl, _, _, rfl, _, _, rfl, rfl, ?_⟩
          have kb3 := kb1.trans kb2
          have ha2 := kb2.keep _ _ aq ha1
          have h22 := h21.kb kb2
          refine ⟨_, rfl, a, CN, dx, _, _, rfl, ha2, TN.cl, TN.nk, nfl_key _ _ _ _ _ _, _, rfl, a, CN, dx, _, _, rfl, ha2, TN.cl, TN.nh, nfl_held _ _ _ _ _ _, _, rfl, _, rfl, a, CN, dx, _, _, rfl, ha2, TN.cl, TN.nr, nfl_right _ _ _ _ _ _, O.q, k, g, v2, rv, _, r, rfl, O.isq hL2, t2, h22, fun H3 v3 s3 t3 => ?_⟩
          refine ⟨_, rfl, by show 2 ≤ sizeLine; decide, fun tw ntw => ?_⟩
          have s4 := s3.trans (Same.new (o := .tup [v3, .bl (Mir.wk O.ans l key held (lg ++ [(k, key)])).2.1]) ntw)
          exact hQ _ tw v3 (kb3.trans (KB.of_same s4)) (t3.same (Same.new ntw)) upd_same (O.stay (Stay.of_same s4) hL2)
        · have c2' : ¬ 0 < sd := c2
          rw [if_neg c2'] at hQ
          refine ⟨_, rfl, a, CN, dx, _, _, rfl, ha1, TN.cl, TN.nr, nfl_right _ _ _ _ _ _, _, rfl, _, rfl, _, rfl, O, rv, key, held, r, _, rfl, h21, by omega, hL1, (hD.r).tk kb1.tk, O.dom kb1.tk hk, by rw [List.length_append, List.length_singleton]; omega, fun H2 tu v2 kb2 t2 htu hL2 => ?_⟩
          refine ⟨tu, _, rfl, SqT.of htu, rfl, _, _, rfl, _, _, rfl, rfl, ?_⟩
          have kb3 := kb1.trans kb2
          have ha2 := kb2.keep _ _ aq ha1
          have h12 := h11.kb kb2
          refine ⟨_, rfl, a, CN, dx, _, _, rfl, ha2, TN.cl, TN.nk, nfl_key _ _ _ _ _ _, _, rfl, a, CN, dx, _, _, rfl, ha2, TN.cl, TN.nh, nfl_held _ _ _ _ _ _, _, rfl, a, CN, dx, _, _, rfl, ha2, TN.cl, TN.nl, nfl_left _ _ _ _ _ _, _, rfl, O.q, k, g, lv, v2, l, _, rfl, O.isq hL2, h12, t2, fun H3 v3 s3 t3 => ?_⟩
          refine ⟨_, rfl, by show 2 ≤ sizeLine; decide, fun tw ntw => ?_⟩
          have s4 := s3.trans (Same.new (o := .tup [v3, .bl (Mir.wk O.ans r key held (lg ++ [(k, key)])).2.1]) ntw)
          exact hQ _ tw v3 (kb3.trans (KB.of_same s4)) (t3.same (Same.new ntw)) upd_same (O.stay (Stay.of_same s4) hL2)
end
end Ord

set_option pp.deepTerms false
set_option pp.maxSteps 1500
namespace Ord
open PySem PySem.Spec PyProof.Rows L2 LamX
open Mir (Tr)
section
variable {P : Program} {w : World} {K : PySem.W.Frag} {mg : Str → Option Value} {base : Heap} {CN : Addr}
/-! ### without_first -/
def N_without_first : List Str := ["node", "first", "left"]
theorem sc_without_first : FnScope ["node", "first", "left"] ["node"] (defScope st_without_first) := ⟨rfl, rfl, rfl, by decide +kernel, rfl, by decide +kernel, by decide +kernel⟩
def spWf (CN : Addr) (n : Nat) : Sp := fun vs H Q _ => ∃ (q : Addr) (v k h : V) (l r : Tr V), vs = [v] ∧ H q ≠ none ∧ TreeAt CN q H v (.nd k h l r) ∧ Mir.lev l ≤ n ∧
  ∀ H' tu b dx lv rv i j v', Same H H' → H' tu = some (.tup [.ref b, v']) → H' b = some (.ins CN dx (nfl (Mir.wf k h l r).1.1 (Mir.wf k h l r).1.2.1 lv rv i j)) → TreeAt CN q H' v' (Mir.wf k h l r).2 → Q (.ref tu) H'
theorem ok_without_first (d_without_first : Df K mg "without_first" st_without_first ["node"]) (d_even : Df K mg "even" st_even ["key", "held", "left", "right"]) (d_lean : Df K mg "lean" st_lean ["node"]) (d_right_up : Df K mg "right_up" st_right_up ["node"]) (d_left_up : Df K mg "left_up" st_left_up ["node"]) (d_Node : Di K mg CN "Node" "Node.__init__" st_Node___init__ ["self", "key", "held", "left", "right"]) (d_level_of : Df K mg "level_of" st_level_of ["node"]) (d_many_of : Df K mg "many_of" st_many_of ["node"]) (TN : NodeT K CN) (mMax : mg "max" = none) : ∀ n, FnOk P w K mg base CX0 (n + 6) d_without_first.f d_without_first.fd ["node"] (spWf CN n) := by
  have G_even : FnOk P w K mg base CX0 5 d_even.f d_even.fd ["key", "held", "left", "right"] (spEven CN) := ok_even d_even d_lean d_right_up d_left_up d_Node d_level_of d_many_of TN mMax
  intro n
  induction n with
  | zero =>
    have G_without_first : FnOk P w K mg base CX0 0 d_without_first.f d_without_first.fd ["node"] (fun _ _ _ _ => False) := ⟨fun _ _ _ _ h => h.elim, fun _ _ _ _ _ _ _ _ _ _ _ _ _ h => h.elim⟩
    refine d_without_first.F.ok sc_without_first (fun vs H Q E h => ?_) (fun cdv A outer s H vs Q E hr h => ?_)
    · obtain ⟨q, v, k, g, l, r, rfl, _⟩ := h
      rfl
    · obtain ⟨q, v, k, g, l, r, rfl, nq, ht, hlv, hQ⟩ := h
      have nd := sc_without_first.nd
      refine ⟨_, (pss_cons (ps_if (pt_cmpR op_isN (pe_fld (pv 0) rfl) pe_non (nomark _))
    (pss_one (ps_ret (pe_tup (pa_cons (pv 0) (pa_cons (pe_fld (pv 0) rfl) pa_nil)))))
    pss_nil)
  (pss_cons (ps_asg (pe_cd (d := d_without_first) G_without_first (hr.mono (by omega)) (pa_cons (pe_fld (pv 0) rfl) pa_nil)) (pg_tup (by rfl) (pgs_cons (pg_name (i := 1) nd rfl (Or.inl rfl)) (pgs_cons (pg_name (i := 2) nd rfl (Or.inl rfl)) pgs_nil))))
  (pss_one (ps_ret (pe_tup (pa_cons (pv 1) (pa_cons (pe_cd (d := d_even) G_even (hr.mono (by omega)) (pa_cons (pe_fld (pv 0) rfl) (pa_cons (pe_fld (pv 0) rfl) (pa_cons (pv 2) (pa_cons (pe_fld (pv 0) rfl) pa_nil))))) pa_nil))))))), ?_⟩
      cases l with
      | nd k1 g1 l1 r1 => simp [Mir.lev] at hlv
      | lf =>
        obtain ⟨a, dx, lv, rv, rfl, aq, ha, h1, h2⟩ := ht
        obtain rfl : lv = .non := h1
        refine ⟨_, rfl, a, CN, dx, _, _, rfl, ha, TN.cl, TN.nl, nfl_left _ _ _ _ _ _, rfl, _, rfl, ?_⟩
        rw [non_non]
        refine iteT ?_
        refine ⟨_, rfl, _, rfl, a, CN, dx, _, _, rfl, ha, TN.cl, TN.nr, nfl_right _ _ _ _ _ _, by show 2 ≤ sizeLine; decide, fun tu ntu => ?_⟩
        exact hQ _ tu a dx .non rv _ _ rv (Same.new ntu) upd_same (kn ntu ha) (h2.same (Same.new ntu))
  | succ n ih =>
    have G_without_first := ih
    refine d_without_first.F.ok sc_without_first (fun vs H Q E h => ?_) (fun cdv A outer s H vs Q E hr h => ?_)
    · obtain ⟨q, v, k, g, l, r, rfl, _⟩ := h
      rfl
    · obtain ⟨q, v, k, g, l, r, rfl, nq, ht, hlv, hQ⟩ := h
      have nd := sc_without_first.nd
      refine ⟨_, (pss_cons (ps_if (pt_cmpR op_isN (pe_fld (pv 0) rfl) pe_non (nomark _))
    (pss_one (ps_ret (pe_tup (pa_cons (pv 0) (pa_cons (pe_fld (pv 0) rfl) pa_nil)))))
    pss_nil)
  (pss_cons (ps_asg (pe_cd (d := d_without_first) G_without_first (hr.mono (by omega)) (pa_cons (pe_fld (pv 0) rfl) pa_nil)) (pg_tup (by rfl) (pgs_cons (pg_name (i := 1) nd rfl (Or.inl rfl)) (pgs_cons (pg_name (i := 2) nd rfl (Or.inl rfl)) pgs_nil))))
  (pss_one (ps_ret (pe_tup (pa_cons (pv 1) (pa_cons (pe_cd (d := d_even) G_even (hr.mono (by omega)) (pa_cons (pe_fld (pv 0) rfl) (pa_cons (pe_fld (pv 0) rfl) (pa_cons (pv 2) (pa_cons (pe_fld (pv 0) rfl) pa_nil))))) pa_nil))))))), ?_⟩
      obtain ⟨a, dx, lv, rv, rfl, aq, ha, h1, h2⟩ := ht
      cases l with
      | lf =>
        obtain rfl : lv = .non := h1
        refine ⟨_, rfl, a, CN, dx, _, _, rfl, ha, TN.cl, TN.nl, nfl_left _ _ _ _ _ _, rfl, _, rfl, ?_⟩
        rw [non_non]
        refine iteT ?_
        refine ⟨_, rfl, _, rfl, a, CN, dx, _, _, rfl, ha, TN.cl, TN.nr, nfl_right _ _ _ _ _ _, by show 2 ≤ sizeLine; decide, fun tu ntu => ?_⟩
        exact hQ _ tu a dx .non rv _ _ rv (Same.new ntu) upd_same (kn ntu ha) (h2.same (Same.new ntu))
      | nd k1 g1 l1 r1 =>
        have hlv' : 1 + max (Mir.lev l1) (Mir.lev r1) ≤ n + 1 := hlv
        refine ⟨_, rfl, a, CN, dx, _, _, rfl, ha, TN.cl, TN.nl, nfl_left _ _ _ _ _ _, rfl, _, rfl, ?_⟩
        have h10 := h1
        obtain ⟨b, dy, lv1, rv1, rfl, _⟩ := h1
        rw [non_ref]
        refine iteF ?_
        refine ⟨_, rfl, a, CN, dx, _, _, rfl, ha, TN.cl, TN.nl, nfl_left _ _ _ _ _ _, q, .ref b, k1, g1, l1, r1, rfl, nq, h10, by omega, fun H2 tu b2 dz lv2 rv2 i2 j2 v2 s2 htu hb2 t2 => ?_⟩
        refine ⟨tu, _, rfl, SqT.of htu, rfl, _, _, rfl, _, _, rfl, rfl, ?_⟩
        have ha2 := s2 _ _ ha
        refine ⟨_, rfl, _, rfl, a, CN, dx, _, _, rfl, ha2, TN.cl, TN.nk, nfl_key _ _ _ _ _ _, _, rfl, a, CN, dx, _, _, rfl, ha2, TN.cl, TN.nh, nfl_held _ _ _ _ _ _, _, rfl, _, rfl, a, CN, dx, _, _, rfl, ha2, TN.cl, TN.nr, nfl_right _ _ _ _ _ _, q, k, g, v2, rv, _, r, rfl, nn_same s2 nq, t2, h2.same s2, fun H3 v3 s3 t3 => ?_⟩
        refine ⟨by show 2 ≤ sizeLine; decide, fun tw ntw => ?_⟩
        have s4 := s3.trans (Same.new (o := .tup [.ref b2, v3]) ntw)
        exact hQ _ tw b2 dz lv2 rv2 i2 j2 v3 (s2.trans s4) upd_same (s4 _ _ hb2) (t3.same (Same.new ntw))
/-! ### joined -/
def N_joined : List Str := ["left", "right", "first", "rest"]
theorem sc_joined : FnScope ["left", "right", "first", "rest"] ["left", "right"] (defScope st_joined) := ⟨rfl, rfl, rfl, by decide +kernel, rfl, by decide +kernel, by decide +kernel⟩
def spJn (CN : Addr) (n : Nat) : Sp := fun vs H Q _ => ∃ (q : Addr) (lv rv : V) (l r : Tr V), vs = [lv, rv] ∧ H q ≠ none ∧ TreeAt CN q H lv l ∧ TreeAt CN q H rv r ∧ Mir.lev r ≤ n ∧ ∀ H' v', Same H H' → TreeAt CN q H' v' (Mir.jn l r) → Q v' H'
theorem ok_joined (d_joined : Df K mg "joined" st_joined ["left", "right"]) (d_without_first : Df K mg "without_first" st_without_first ["node"]) (d_even : Df K mg "even" st_even ["key", "held", "left", "right"]) (d_lean : Df K mg "lean" st_lean ["node"]) (d_right_up : Df K mg "right_up" st_right_up ["node"]) (d_left_up : Df K mg "left_up" st_left_up ["node"]) (d_Node : Di K mg CN "Node" "Node.__init__" st_Node___init__ ["self", "key", "held", "left", "right"]) (d_level_of : Df K mg "level_of" st_level_of ["node"]) (d_many_of : Df K mg "many_of" st_many_of ["node"]) (TN : NodeT K CN) (mMax : mg "max" = none) (n : Nat) : FnOk P w K mg base CX0 (n + 7) d_joined.f d_joined.fd ["left", "right"] (spJn CN n) := by
  have G_even : FnOk P w K mg base CX0 5 d_even.f d_even.fd ["key", "held", "left", "right"] (spEven CN) := ok_even d_even d_lean d_right_up d_left_up d_Node d_level_of d_many_of TN mMax
  have G_without_first : FnOk P w K mg base CX0 (n + 6) d_without_first.f d_without_first.fd ["node"] (spWf CN n) := ok_without_first d_without_first d_even d_lean d_right_up d_left_up d_Node d_level_of d_many_of TN mMax n
  refine d_joined.F.ok sc_joined (fun vs H Q E h => ?_) (fun cdv A outer s H vs Q E hr h => ?_)
  · obtain ⟨q, lv, rv, l, r, rfl, _⟩ := h
    rfl
  · obtain ⟨q, lv, rv, l, r, rfl, nq, hl, hrr, hlv, hQ⟩ := h
    have nd := sc_joined.nd
    refine ⟨_, (pss_cons (ps_if (pt_cmpR op_isN (pv 0) pe_non (nomark _))
    (pss_one (ps_ret (pv 1)))
    pss_nil)
  (pss_cons (ps_if (pt_cmpR op_isN (pv 1) pe_non (nomark _))
    (pss_one (ps_ret (pv 0)))
    pss_nil)
  (pss_cons (ps_asg (pe_cd (d := d_without_first) G_without_first (hr.mono (by omega)) (pa_cons (pv 1) pa_nil)) (pg_tup (by rfl) (pgs_cons (pg_name (i := 2) nd rfl (Or.inl rfl)) (pgs_cons (pg_name (i := 3) nd rfl (Or.inl rfl)) pgs_nil))))
  (pss_one (ps_ret (pe_cd (d := d_even) G_even (hr.mono (by omega)) (pa_cons (pe_fld (pv 2) rfl) (pa_cons (pe_fld (pv 2) rfl) (pa_cons (pv 0) (pa_cons (pv 3) pa_nil)))))))))), ?_⟩
    cases l with
    | lf =>
      obtain rfl : lv = .non := hl
      refine ⟨_, rfl, rfl, _, rfl, ?_⟩
      rw [non_non]
      exact iteT ⟨_, rfl, hQ H rv (Same.refl _) hrr⟩
    | nd k g l1 r1 =>
      have hl0 := hl
      obtain ⟨a, dx, lv1, rv1, rfl, aq, ha, h1, h2⟩ := hl
      refine ⟨_, rfl, rfl, _, rfl, ?_⟩
      rw [non_ref]
      refine iteF ?_
      cases r with
      | lf =>
        obtain rfl : rv = .non := hrr
        refine ⟨_, rfl, rfl, _, rfl, ?_⟩
        rw [non_non]
        exact iteT ⟨_, rfl, hQ H _ (Same.refl _) hl0⟩
      | nd k2 g2 l2 r2 =>
        have hr0 := hrr
        have hlv' : 1 + max (Mir.lev l2) (Mir.lev r2) ≤ n := hlv
        obtain ⟨b, dy, lv2, rv2, rfl, _⟩ := hrr
        refine ⟨_, rfl, rfl, _, rfl, ?_⟩
        rw [non_ref]
        refine iteF ?_
        refine ⟨_, rfl, q, .ref b, k2, g2, l2, r2, rfl, nq, hr0, by omega, fun H2 tu b2 dz lv3 rv3 i2 j2 v2 s2 htu hb2 t2 => ?_⟩
        refine ⟨tu, _, rfl, SqT.of htu, rfl, _, _, rfl, _, _, rfl, rfl, ?_⟩
        refine ⟨_, rfl, b2, CN, dz, _, _, rfl, hb2, TN.cl, TN.nk, nfl_key _ _ _ _ _ _, _, rfl, b2, CN, dz, _, _, rfl, hb2, TN.cl, TN.nh, nfl_held _ _ _ _ _ _, _, rfl, _, rfl, q, _, _, .ref a, v2, .nd k g l1 r1, _, rfl, nn_same s2 nq, hl0.same s2, t2, fun H3 v3 s3 t3 => ?_⟩
        exact hQ H3 v3 (s2.trans s3) t3
/-! ### without_key -/
def N_without_key : List Str := ["node", "key", "order", "side", "left", "was_there", "right"]
theorem sc_without_key : FnScope ["node", "key", "order", "side", "left", "was_there", "right"] ["node", "key", "order"] (defScope st_without_key) := ⟨rfl, rfl, rfl, by decide +kernel, rfl, by decide +kernel, by decide +kernel⟩
def spWo (P : Program) (w : World) (K : PySem.W.Frag) (mg : Str → Option Value) (base : Heap) (CN : Addr) (n : Nat) : Sp := fun vs H Q _ => ∃ (O : Orc P w K mg base) (v key : V) (t : Tr V) (l : Lg), vs = [v, key, .ref O.f] ∧
  TreeAt CN O.q H v t ∧ Mir.lev t ≤ n ∧ Mir.lev t ≤ 12 ∧ O.Log l H ∧ TDom O t H ∧ O.Dom key H ∧ l.length + Mir.lev t ≤ 90000 ∧
  ∀ H' tu v', KB O.q H H' → TreeAt CN O.q H' v' (Mir.wo O.ans t key l).1 → H' tu = some (.tup [v', .bl (Mir.wo O.ans t key l).2.1]) → O.Log (Mir.wo O.ans t key l).2.2 H' → Q (.ref tu) H'
theorem wo_lf {O : Orc P w K mg base} {H : Hp} {Q : VK} {key : V} {lg : Lg} (hL : O.Log lg H) (hQ : ∀ H' tu v', KB O.q H H' → TreeAt CN O.q H' v' (Mir.wo O.ans .lf key lg).1 → H' tu = some (.tup [v', .bl (Mir.wo O.ans .lf key lg).2.1]) → O.Log (Mir.wo O.ans .lf key lg).2.2 H' → Q (.ref tu) H') {tu : Addr} (ntu : H tu = none) :
    Q (.ref tu) (upd H tu (.tup [.non, .bl false])) := hQ _ tu .non (KB.new ntu) rfl upd_same (O.stay (Stay.new ntu) hL)
theorem ok_without_key (d_without_key : Df K mg "without_key" st_without_key ["node", "key", "order"]) (d_joined : Df K mg "joined" st_joined ["left", "right"]) (d_without_first : Df K mg "without_first" st_without_first ["node"]) (d_even : Df K mg "even" st_even ["key", "held", "left", "right"]) (d_lean : Df K mg "lean" st_lean ["node"]) (d_right_up : Df K mg "right_up" st_right_up ["node"]) (d_left_up : Df K mg "left_up" st_left_up ["node"]) (d_Node : Di K mg CN "Node" "Node.__init__" st_Node___init__ ["self", "key", "held", "left", "right"]) (d_level_of : Df K mg "level_of" st_level_of ["node"]) (d_many_of : Df K mg "many_of" st_many_of ["node"]) (TN : NodeT K CN) (mMax : mg "max" = none) : ∀ n, FnOk P w K mg base CX0 (n + 20) d_without_key.f d_without_key.fd ["node", "key", "order"] (spWo P w K mg base CN n) := by
  have G_even : FnOk P w K mg base CX0 5 d_even.f d_even.fd ["key", "held", "left", "right"] (spEven CN) := ok_even d_even d_lean d_right_up d_left_up d_Node d_level_of d_many_of TN mMax
  have G_joined : FnOk P w K mg base CX0 19 d_joined.f d_joined.fd ["left", "right"] (spJn CN 12) := ok_joined d_joined d_without_first d_even d_lean d_right_up d_left_up d_Node d_level_of d_many_of TN mMax 12
  intro n
  induction n with
  | zero =>
    have G_without_key : FnOk P w K mg base CX0 0 d_without_key.f d_without_key.fd ["node", "key", "order"] (fun _ _ _ _ => False) := ⟨fun _ _ _ _ h => h.elim, fun _ _ _ _ _ _ _ _ _ _ _ _ _ h => h.elim⟩
    refine d_without_key.F.ok sc_without_key (fun vs H Q E h => ?_) (fun cdv A outer s H vs Q E hr h => ?_)
    · obtain ⟨O, v, key, t, l, rfl, _⟩ := h
      rfl
    · obtain ⟨O, v, key, t, l, rfl, ht, hlv, hlv2, hL, hD, hk, hc, hQ⟩ := h
      have nd := sc_without_key.nd
      refine ⟨_, (pss_cons (ps_if (pt_cmpR op_isN (pv 0) pe_non (nomark _))
    (pss_one (ps_ret (pe_tup (pa_cons pe_non (pa_cons pe_bl pa_nil)))))
    pss_nil)
  (pss_cons (ps_set (i := 3) nd rfl (Or.inl rfl) (pe_callV O.run (hr.mono (by omega)) (pa_cons (pe_fld (pv 0) rfl) (pa_cons (pv 1) pa_nil)) (i := 2)))
  (pss_cons (ps_if (pt_cmpR op_eq (pv 3) pe_int (nomark _))
    (pss_one (ps_ret (pe_tup (pa_cons (pe_cd (d := d_joined) G_joined (hr.mono (by omega)) (pa_cons (pe_fld (pv 0) rfl) (pa_cons (pe_fld (pv 0) rfl) pa_nil))) (pa_cons pe_bl pa_nil)))))
    pss_nil)
  (pss_cons (ps_if (pt_cmpR op_gt (pv 3) pe_int (nomark _))
    (pss_cons (ps_asg (pe_cd (d := d_without_key) G_without_key (hr.mono (by omega)) (pa_cons (pe_fld (pv 0) rfl) (pa_cons (pv 1) (pa_cons (pv 2) pa_nil)))) (pg_tup (by rfl) (pgs_cons (pg_name (i := 4) nd rfl (Or.inl rfl)) (pgs_cons (pg_name (i := 5) nd rfl (Or.inl rfl)) pgs_nil))))
  (pss_one (ps_ret (pe_tup (pa_cons (pe_cd (d := d_even) G_even (hr.mono (by omega)) (pa_cons (pe_fld (pv 0) rfl) (pa_cons (pe_fld (pv 0) rfl) (pa_cons (pv 4) (pa_cons (pe_fld (pv 0) rfl) pa_nil))))) (pa_cons (pv 5) pa_nil))))))
    pss_nil)
  (pss_cons (ps_asg (pe_cd (d := d_without_key) G_without_key (hr.mono (by omega)) (pa_cons (pe_fld (pv 0) rfl) (pa_cons (pv 1) (pa_cons (pv 2) pa_nil)))) (pg_tup (by rfl) (pgs_cons (pg_name (i := 6) nd rfl (Or.inl rfl)) (pgs_cons (pg_name (i := 5) nd rfl (Or.inl rfl)) pgs_nil))))
  (pss_one (ps_ret (pe_tup (pa_cons (pe_cd (d := d_even) G_even (hr.mono (by omega)) (pa_cons (pe_fld (pv 0) rfl) (pa_cons (pe_fld (pv 0) rfl) (pa_cons (pe_fld (pv 0) rfl) (pa_cons (pv 6) pa_nil))))) (pa_cons (pv 5) pa_nil)))))))))), ?_⟩
      cases t with
      | nd k g l r => simp [Mir.lev] at hlv
      | lf =>
        obtain rfl : v = .non := ht
        refine ⟨_, rfl, rfl, _, rfl, ?_⟩
        rw [non_non]
        exact iteT ⟨by show 2 ≤ sizeLine; decide, fun tu ntu => wo_lf hL hQ ntu⟩
  | succ n ih =>
    have G_without_key := ih
    refine d_without_key.F.ok sc_without_key (fun vs H Q E h => ?_) (fun cdv A outer s H vs Q E hr h => ?_)
    · obtain ⟨O, v, key, t, l, rfl, _⟩ := h
      rfl
    · obtain ⟨O, v, key, t, lg, rfl, ht, hlv, hlv2, hL, hD, hk, hc, hQ⟩ := h
      have nd := sc_without_key.nd
      refine ⟨_, (pss_cons (ps_if (pt_cmpR op_isN (pv 0) pe_non (nomark _))
    (pss_one (ps_ret (pe_tup (pa_cons pe_non (pa_cons pe_bl pa_nil)))))
    pss_nil)
  (pss_cons (ps_set (i := 3) nd rfl (Or.inl rfl) (pe_callV O.run (hr.mono (by omega)) (pa_cons (pe_fld (pv 0) rfl) (pa_cons (pv 1) pa_nil)) (i := 2)))
  (pss_cons (ps_if (pt_cmpR op_eq (pv 3) pe_int (nomark _))
    (pss_one (ps_ret (pe_tup (pa_cons (pe_cd (d := d_joined) G_joined (hr.mono (by omega)) (pa_cons (pe_fld (pv 0) rfl) (pa_cons (pe_fld (pv 0) rfl) pa_nil))) (pa_cons pe_bl pa_nil)))))
    pss_nil)
  (pss_cons (ps_if (pt_cmpR op_gt (pv 3) pe_int (nomark _))
    (pss_cons (ps_asg (pe_cd (d := d_without_key) G_without_key (hr.mono (by omega)) (pa_cons (pe_fld (pv 0) rfl) (pa_cons (pv 1) (pa_cons (pv 2) pa_nil)))) (pg_tup (by rfl) (pgs_cons (pg_name (i := 4) nd rfl (Or.inl rfl)) (pgs_cons (pg_name (i := 5) nd rfl (Or.inl rfl)) pgs_nil))))
  (pss_one (ps_ret (pe_tup (pa_cons (pe_cd (d := d_even) G_even (hr.mono (by omega)) (pa_cons (pe_fld (pv 0) rfl) (pa_cons (pe_fld (pv 0) rfl) (pa_cons (pv 4) (pa_cons (pe_fld (pv 0) rfl) pa_nil))))) (pa_cons (pv 5) pa_nil))))))
    pss_nil)
  (pss_cons (ps_asg (pe_cd (d := d_without_key) G_without_key (hr.mono (by omega)) (pa_cons (pe_fld (pv 0) rfl) (pa_cons (pv 1) (pa_cons (pv 2) pa_nil)))) (pg_tup (by rfl) (pgs_cons (pg_name (i := 6) nd rfl (Or.inl rfl)) (pgs_cons (pg_name (i := 5) nd rfl (Or.inl rfl)) pgs_nil))))
  (pss_one (ps_ret (pe_tup (pa_cons (pe_cd (d := d_even) G_even (hr.mono (by omega)) (pa_cons (pe_fld (pv 0) rfl) (pa_cons (pe_fld (pv 0) rfl) (pa_cons (pe_fld (pv 0) rfl) (pa_cons (pv 6) pa_nil))))) (pa_cons (pv 5) pa_nil)))))))))), ?_⟩
      have nq := O.isq hL
      cases t with
      | lf =>
        obtain rfl : v = .non := ht
        refine ⟨_, rfl, rfl, _, rfl, ?_⟩
        rw [non_non]
        exact iteT ⟨by show 2 ≤ sizeLine; decide, fun tu ntu => wo_lf hL hQ ntu⟩
      | nd k g l r =>
        have hlv' : 1 + max (Mir.lev l) (Mir.lev r) ≤ n + 1 := hlv
        have hlv3 : 1 + max (Mir.lev l) (Mir.lev r) ≤ 12 := hlv2
        have hc' : lg.length + (1 + max (Mir.lev l) (Mir.lev r)) ≤ 90000 := hc
        obtain ⟨a, dx, lv, rv, rfl, aq, ha, h1, h2⟩ := ht
        refine ⟨_, rfl, rfl, _, rfl, ?_⟩
        rw [non_ref]
        refine iteF ?_
        -- the question
        refine ⟨rfl, O.isf hL, _, rfl, a, CN, dx, _, _, rfl, ha, TN.cl, TN.nk, nfl_key _ _ _ _ _ _, _, rfl, O.isf hL, k, key, lg, rfl, hL, by omega, hD.k, hk, fun H1 kb1 hL1 => ?_⟩
        have ha1 := kb1.keep _ _ aq ha
        have h11 := h1.kb kb1
        have h21 := h2.kb kb1
        have nq1 := O.isq hL1
        obtain ⟨sd, esd⟩ : ∃ sd, sd = O.ans lg k key := ⟨_, rfl⟩
        have wk0 : Mir.wo O.ans (.nd k g l r) key lg = if sd = 0 then (Mir.jn l r, true, lg ++ [(k, key)]) else if 0 < sd then (Mir.evn k g (Mir.wo O.ans l key (lg ++ [(k, key)])).1 r, (Mir.wo O.ans l key (lg ++ [(k, key)])).2.1, (Mir.wo O.ans l key (lg ++ [(k, key)])).2.2) else (Mir.evn k g l (Mir.wo O.ans r key (lg ++ [(k, key)])).1, (Mir.wo O.ans r key (lg ++ [(k, key)])).2.1, (Mir.wo O.ans r key (lg ++ [(k, key)])).2.2) := by
          rw [esd]
          rfl
        rw [wk0] at hQ
        rw [← esd]
        clear wk0
        refine ⟨_, rfl, rfl, _, rfl, iteI (fun c1 => ?_) (fun c1 => ?_)⟩
        · rw [if_pos c1] at hQ
          refine ⟨_, rfl, a, CN, dx, _, _, rfl, ha1, TN.cl, TN.nl, nfl_left _ _ _ _ _ _, _, rfl, a, CN, dx, _, _, rfl, ha1, TN.cl, TN.nr, nfl_right _ _ _ _ _ _, O.q, lv, rv, l, r, rfl, nq1, h11, h21, by omega, fun H2 v2 s2 t2 => ?_⟩
          refine ⟨by show 2 ≤ sizeLine; decide, fun tu ntu => ?_⟩
          have s3 := s2.trans (Same.new (o := .tup [v2, .bl true]) ntu)
          exact hQ _ tu v2 (kb1.trans (KB.of_same s3)) (t2.same (Same.new ntu)) upd_same (O.stay (Stay.of_same s3) hL1)
        rw [if_neg c1] at hQ
        refine ⟨_, rfl, _, _, rfl, rfl, _, rfl, ?_⟩
        refine iteD (fun c2 => ?_) (fun c2 => ?_)
        · have c2' : 0 < sd := c2
          rw [if_pos c2'] at hQ
          refine ⟨_, rfl, a, CN, dx, _, _, rfl, ha1, TN.cl, TN.nl, nfl_left _ _ _ _ _ _, _, rfl, _, rfl, O, lv, key, l, _, rfl, h11, by omega, by omega, hL1, (hD.l).tk kb1.tk, O.dom kb1.tk hk, by rw [List.length_append, List.length_singleton]; omega, fun H2 tu v2 kb2 t2 htu hL2 => ?_⟩
          refine ⟨tu, _, rfl, SqT.of htu, rfl, _, _, rfl, _, _, rfl, rfl, ?_⟩
          have kb3 := kb1.trans kb2
          have ha2 := kb2.keep _ _ aq ha1
          have h22 := h21.kb kb2
          refine ⟨_, rfl, a, CN, dx, _, _, rfl, ha2, TN.cl, TN.nk, nfl_key _ _ _ _ _ _, _, rfl, a, CN, dx, _, _, rfl, ha2, TN.cl, TN.nh, nfl_held _ _ _ _ _ _, _, rfl, _, rfl, a, CN, dx, _, _, rfl, ha2, TN.cl, TN.nr, nfl_right _ _ _ _ _ _, O.q, k, g, v2, rv, _, r, rfl, O.isq hL2, t2, h22, fun H3 v3 s3 t3 => ?_⟩
          refine ⟨_, rfl, by show 2 ≤ sizeLine; decide, fun tw ntw => ?_⟩
          have s4 := s3.trans (Same.new (o := .tup [v3, .bl (Mir.wo O.ans l key (lg ++ [(k, key)])).2.1]) ntw)
          exact hQ _ tw v3 (kb3.trans (KB.of_same s4)) (t3.same (Same.new ntw)) upd_same (O.stay (Stay.of_same s4) hL2)
        · have c2' : ¬ 0 < sd := c2
          rw [if_neg c2'] at hQ
          refine ⟨_, rfl, a, CN, dx, _, _, rfl, ha1, TN.cl, TN.nr, nfl_right _ _ _ _ _ _, _, rfl, _, rfl, O, rv, key, r, _, rfl, h21, by omega, by omega, hL1, (hD.r).tk kb1.tk, O.dom kb1.tk hk, by rw [List.length_append, List.length_singleton]; omega, fun H2 tu v2 kb2 t2 htu hL2 => ?_⟩
          refine ⟨tu, _, rfl, SqT.of htu, rfl, _, _, rfl, _, _, rfl, rfl, ?_⟩
          have kb3 := kb1.trans kb2
          have ha2 := kb2.keep _ _ aq ha1
          have h12 := h11.kb kb2
          refine ⟨_, rfl, a, CN, dx, _, _, rfl, ha2, TN.cl, TN.nk, nfl_key _ _ _ _ _ _, _, rfl, a, CN, dx, _, _, rfl, ha2, TN.cl, TN.nh, nfl_held _ _ _ _ _ _, _, rfl, a, CN, dx, _, _, rfl, ha2, TN.cl, TN.nl, nfl_left _ _ _ _ _ _, _, rfl, O.q, k, g, lv, v2, l, _, rfl, O.isq hL2, h12, t2, fun H3 v3 s3 t3 => ?_⟩
          refine ⟨_, rfl, by show 2 ≤ sizeLine; decide, fun tw ntw => ?_⟩
          have s4 := s3.trans (Same.new (o := .tup [v3, .bl (Mir.wo O.ans r key (lg ++ [(k, key)])).2.1]) ntw)
          exact hQ _ tw v3 (kb3.trans (KB.of_same s4)) (t3.same (Same.new ntw)) upd_same (O.stay (Stay.of_same s4) hL2)
end
end Ord

namespace Ord
open PySem PySem.Spec PyProof.Rows L2 LamX
/-! ### a written log of questions -/
def LogAt (H : Hp) (ps : List V) (l : Lg) : Prop := Paired (fun v z => ∃ p, v = V.ref p ∧ H p = some (.tup [z.1, z.2])) ps l
theorem LogAt.tk {H H' : Hp} {ps : List V} {l : Lg} (h : LogAt H ps l) (k : TK H H') : LogAt H' ps l := Paired.mapP h fun v z ⟨p, e1, e2⟩ => ⟨p, e1, k _ _ e2⟩
theorem LogAt.length {H : Hp} {ps : List V} {l : Lg} (h : LogAt H ps l) : ps.length = l.length := Paired.length h
theorem Paired.snoc {α β : Type} {F : α → β → Prop} {x : α} {y : β} (h : F x y) : ∀ {xs : List α} {ys : List β}, Paired F xs ys → Paired F (xs ++ [x]) (ys ++ [y])
  | _, _, .nil => .cons h .nil
  | _, _, .cons r t => .cons r (Paired.snoc h t)
theorem LogAt.snoc {H : Hp} {ps : List V} {l : Lg} {p : Addr} {x y : V} (h : LogAt H ps l) (e : H p = some (.tup [x, y])) : LogAt H (ps ++ [.ref p]) (l ++ [(x, y)]) := Paired.snoc ⟨p, rfl, e⟩ h
theorem CellV.stay {q c : Addr} {H H' : Hp} {v : V} (h : CellV H c v) (s : Stay q H H') : CellV H' c v := by
  obtain ⟨o, u, e, r⟩ := h
  exact ⟨o, u, s _ _ e (.inr True.intro), r⟩
theorem ClosAt.stay {q : Addr} {cl : List (Str × Addr)} {fr : List Str} {ws : List (Option V)} {H H' : Hp} (h : ClosAt cl fr ws H) (s : Stay q H H') : ClosAt cl fr ws H' :=
  ⟨h.len, fun b hb => by
    obtain ⟨o, v, e, r⟩ := h.all b hb
    exact ⟨o, v, s _ _ e (.inr True.intro), r⟩, h.inj, fun i y e => by
    obtain ⟨c, hc, hv⟩ := h.has i y e
    exact ⟨c, hc, fun v ev => (hv v ev).stay s⟩⟩
theorem ClosAt.out {cl : List (Str × Addr)} {fr : List Str} {ws : List (Option V)} {H : Hp} (h : ClosAt cl fr ws H) {b : Addr} {o : HO} (e : H b = some o) (n : ∀ ob, o ≠ Fz ob) : b ∉ cl.map (·.2) := fun hb => by
  obtain ⟨ob, v, e', _⟩ := h.all b hb
  rw [e] at e'
  exact n ob (Option.some.inj e')
theorem tup_fz {xs : List V} (ob : Obj) : HO.tup xs ≠ Fz ob := fun z => by cases z
theorem lst_fz {xs : List V} (ob : Obj) : HO.lst xs ≠ Fz ob := fun z => by cases z
theorem Pr.strip {cl : List (Str × Addr)} {fr : List Str} {ws : List (Option V)} {H : Hp} (h : ClosAt cl fr ws H) {x : V} {e : Int × Int} (p : Pr H x e) : Pr (strip cl H) x e := by
  obtain ⟨a, e1, e2⟩ := p
  exact ⟨a, e1, by rw [strip_out (h.out e2 tup_fz)]; exact e2⟩
theorem LogAt.get {H : Hp} : ∀ {ps : List V} {l : Lg} {i : Nat} {x : V}, LogAt H ps l → ps[i]? = some x → ∃ z, l[i]? = some z ∧ ∃ t, x = V.ref t ∧ H t = some (.tup [z.1, z.2])
  | _, _, _, _, .nil, e => by simp at e
  | _, _, 0, _, .cons r _, e => by
    simp at e
    subst e
    exact ⟨_, rfl, r⟩
  | _, _, i + 1, _, .cons _ t, e => by
    obtain ⟨z, h1, h2⟩ := LogAt.get (i := i) t (by simpa using e)
    exact ⟨z, by simpa using h1, h2⟩
/-- the end of a lambda's call that writes a question down -/
theorem relend_ask {cl : List (Str × Addr)} {fr : List Str} {ws : List (Option V)} {H : Hp} {q t : Addr} {x y : V} {ps : List V} (C : ClosAt cl fr ws H) (hq : H q = some (.lst ps)) (ht : strip cl H t = none)
    (hf : ∀ b, b ∈ cl.map (·.2) → upd (upd (strip cl H) t (.tup [x, y])) q (.lst (ps ++ [.ref t])) b = Option.none) :
    KB q H (relend cl H (upd (upd (strip cl H) t (.tup [x, y])) q (.lst (ps ++ [.ref t])))) ∧ Stay q H (upd (relend cl H (upd (upd (strip cl H) t (.tup [x, y])) q (.lst (ps ++ [.ref t])))) q (.lst ps)) ∧
    relend cl H (upd (upd (strip cl H) t (.tup [x, y])) q (.lst (ps ++ [.ref t]))) q = some (.lst (ps ++ [.ref t])) ∧ relend cl H (upd (upd (strip cl H) t (.tup [x, y])) q (.lst (ps ++ [.ref t]))) t = some (.tup [x, y]) ∧ H t = Option.none := by
  have qc : q ∉ cl.map (·.2) := C.out hq lst_fz
  have hqs : strip cl H q = some (.lst ps) := by rw [strip_out qc]; exact hq
  have qt : q ≠ t := ne_of_none hqs ht
  have tc : t ∉ cl.map (·.2) := fun z => by
    have e := hf t z
    rw [upd_ne qt.symm, upd_same] at e
    cases e
  have ht' : H t = none := by rw [strip_out tc] at ht; exact ht
  have inR : ∀ b, b ∈ cl.map (·.2) → relend cl H (upd (upd (strip cl H) t (.tup [x, y])) q (.lst (ps ++ [.ref t]))) b = H b := fun b hb => if_pos hb
  have outR : ∀ b, b ∉ cl.map (·.2) → relend cl H (upd (upd (strip cl H) t (.tup [x, y])) q (.lst (ps ++ [.ref t]))) b = upd (upd (strip cl H) t (.tup [x, y])) q (.lst (ps ++ [.ref t])) b := fun b hb => if_neg hb
  have keep : ∀ b o, b ≠ q → H b = some o → relend cl H (upd (upd (strip cl H) t (.tup [x, y])) q (.lst (ps ++ [.ref t]))) b = some o := fun b o hb e => by
    by_cases hc : b ∈ cl.map (·.2)
    · rw [inR b hc]
      exact e
    · rw [outR b hc, upd_ne hb, upd_ne (ne_of_none e ht'), strip_out hc]
      exact e
  refine ⟨⟨keep, fun b xs e => keep b _ (fun z => by
    rw [z, hq] at e
    cases e) e⟩, fun b o e f => ?_, by rw [outR q qc, upd_same], by rw [outR t tc, upd_ne qt.symm, upd_same], ht'⟩
  by_cases hb : b = q
  · rw [hb, upd_same]
    rw [hb, hq] at e
    exact e
  · rw [upd_ne hb]
    exact keep b o hb e
/-! ### the order that writes down what it is asked -/
section
variable {P : Program} {w : World} {K : PySem.W.Frag} {mg : Str → Option Value} {base : Heap}
/-- the function at f, its code, its cells, the log at q -/
def AskLog (f q c' : Addr) (pm ctv : Value) (qn : Str) (params : Arguments) (body : Expr) (scope : Scope) (cl : List (Str × Addr)) (fr : List Str) (ws : List (Option V)) (l : Lg) (H : Hp) : Prop :=
  H f = some (Fz (PySem.W.kla_obj "<lambda>" qn params body scope cl pm c' ctv)) ∧ H c' = some (CodeO c' qn) ∧ ClosAt cl fr ws H ∧ ∃ qs, H q = some (.lst qs) ∧ LogAt H qs l
theorem codeO_fz {c : Addr} {q : Str} (ob : Obj) : CodeO c q ≠ Fz ob := fun z => by
  unfold CodeO at z
  cases z
def mkOrc {f q c' : Addr} {pm ctv : Value} {qn : Str} {params : Arguments} {body : Expr} {scope : Scope} {cl : List (Str × Addr)} {ps fr : List Str} {ws : List (Option V)} (ans : Lg → V → V → Int) (Dom : V → Hp → Prop) {t : TE}
    (S : NdefX.NScope (ps ++ fr) ps fr scope) (two : ps.length = 2) (hw : ws.length = fr.length)
    (hb : ∀ us : List Value, us.length = ps.length → bindArgs (PySem.W.kla_fn "<lambda>" qn params body scope cl pm (.ref c') ctv) ⟨us, []⟩ = pure (ps.zip us))
    (dom : ∀ {x : V} {H H' : Hp}, TK H H' → Dom x H → Dom x H')
    (B : ∀ (A : Around) (outer : List Env) (s : Shared) (H0 : Hp), Room 2 (A.deeper (NdefX.envF (lamNF qn params scope cl c') f s.heap.objs.size)) → PE (NdefX.ncx CX0 P w K mg base (ps ++ fr) (lamNF qn params scope cl c') f A outer s H0 E0).nox body t)
    (hq : ∀ (x y : V) (l : Lg) (qs : List V) (H : Hp) (Q : VK), H q = some (.lst qs) → LogAt H qs l → l.length < 100000 → Dom x H → Dom y H →
      (∀ a, H a = none → Q (.int (ans l x y)) (upd (upd H a (.tup [x, y])) q (.lst (qs ++ [.ref a])))) → t (some x :: some y :: ws) H Q) : Orc P w K mg base where
  f := f
  q := q
  ans := ans
  Log := AskLog f q c' pm ctv qn params body scope cl fr ws
  Dom := Dom
  isf := fun {l H} h => ⟨_, _, _, _, h.1⟩
  isq := fun {l H} h z => by
    obtain ⟨_, _, _, qs, e, _⟩ := h
    rw [z] at e
    cases e
  stay := fun {l H H'} s h => by
    obtain ⟨h1, h2, h3, qs, h4, h5⟩ := h
    exact ⟨s _ _ h1 (.inr True.intro), s _ _ h2 (.inr (by unfold CodeO; exact True.intro)), h3.stay s, qs, s _ _ h4 (.inl rfl), h5.tk s.tk⟩
  dom := dom
  run := by
    refine fnv_lam (ps := ps) (fr := fr) (N := ps ++ fr) (ws := ws) (pm := pm) (ctv := ctv) (c' := c') (q := qn) (params := params) (body := body) (scope := scope) (cl := cl) S hb (fun vs H Q h => ?_) fun A outer s H vs Q hr h => ⟨t, B A outer s _ hr, ?_⟩
    · obtain ⟨x, y, l, rfl, ⟨h1, h2, h3, _⟩, _⟩ := h
      exact ⟨two.symm, h1, h2, h3⟩
    · obtain ⟨x, y, l, rfl, ⟨h1, h2, h3, qs, h4, h5⟩, hl, dx, dy, hQ⟩ := h
      have qc := h3.out h4 lst_fz
      have hqs : strip cl H q = some (.lst qs) := by rw [strip_out qc]; exact h4
      have kS : TK H (strip cl H) := fun b xs e => by rw [strip_out (h3.out e tup_fz)]; exact e
      have es : NdefX.startF (ps ++ fr) [x, y] ws = some x :: some y :: ws := by
        unfold NdefX.startF
        rw [List.length_append, two, hw]
        simp
      rw [es]
      refine hq x y l qs (strip cl H) _ hqs (h5.tk kS) hl (dom kS dx) (dom kS dy) fun a ha hf => ?_
      obtain ⟨kb, st, e1, e2, e3⟩ := relend_ask h3 h4 ha hf
      have fq : f ≠ q := fun z => by
        rw [z, h4] at h1
        cases h1
      have cq : c' ≠ q := fun z => by
        rw [z, h4] at h2
        exact absurd (Option.some.inj h2).symm (by unfold CodeO; intro y; cases y)
      have cl3 : ClosAt cl fr ws (relend cl H (upd (upd (strip cl H) a (.tup [x, y])) q (.lst (qs ++ [.ref a])))) := by
        refine ⟨h3.len, fun b hb => ?_, h3.inj, fun i y e => ?_⟩
        · obtain ⟨o, v, e, r⟩ := h3.all b hb
          exact ⟨o, v, by rw [show relend cl H _ b = H b from if_pos hb]; exact e, r⟩
        · obtain ⟨c, hc, hv⟩ := h3.has i y e
          refine ⟨c, hc, fun v ev => ?_⟩
          obtain ⟨o, u, e4, r⟩ := hv v ev
          exact ⟨o, u, by rw [show relend cl H _ c = H c from if_pos (lookup_mem2 hc)]; exact e4, r⟩
      exact hQ _ kb ⟨kb.keep _ _ fq h1, kb.keep _ _ cq h2, cl3, _, e1, (h5.tk kb.tk).snoc e2⟩
end
end Ord

namespace Ord
open PySem PySem.Spec PyProof.Rows L2 LamX
theorem ps_dead {X : Cx} {st : Stmt} : PS X st (fun _ _ _ => False) := ⟨fun pins s σ H D I h => h.elim⟩
/-- a row that may be looked at as data -/
def Dat (K : PySem.W.Frag) (xs : List V) (H : Hp) : Prop := ∀ H', TK H H' → ∃ ds, DpAll K H' xs ds ∧ SeqAt.shaped (.list ds) = true
theorem Dat.tk {K : PySem.W.Frag} {xs : List V} {H H' : Hp} (h : Dat K xs H) (k : TK H H') : Dat K xs H' := fun H2 k2 => h H2 (k.trans k2)
theorem eqv_cons_nil (d : PyData) (ds : List PyData) : PyData.eqv (.list (d :: ds)) (.list []) = false := by
  rw [PyData.eqv, PyData.eqvAll]
/-- so may rows of its elements -/
def DatS (K : PySem.W.Frag) (xs : List V) (H : Hp) : Prop := ∀ ys, (∀ y ∈ ys, y ∈ xs) → Dat K ys H
theorem DatS.tk {K : PySem.W.Frag} {xs : List V} {H H' : Hp} (h : DatS K xs H) (k : TK H H') : DatS K xs H' := fun ys s => (h ys s).tk k
theorem DatS.of {K : PySem.W.Frag} {xs : List V} {H : Hp} {c : V → Int × Int} (h : Els c xs H) : DatS K xs H := fun ys s H' k => ⟨_, dp_els fun y hy => (h y (s y hy)).tk k, shaped_row c _⟩
theorem eqv_nil_iff {K : PySem.W.Frag} {H : Hp} {ys : List V} {ds : List PyData} (h : DpAll K H ys ds) : PyData.eqv (.list ds) (.list []) = decide (ys = []) := by
  cases h with
  | nil => rw [PyData.eqv, PyData.eqvAll]; simp
  | cons a b => rw [eqv_cons_nil]; simp
theorem cut_last {xs : List V} : cutV xs none (some (-1)) = xs.dropLast := by
  unfold cutV
  rw [HT.sIx_none, List.drop_zero, Nat.sub_zero]
  have e : HT.sIx xs.length xs.length (some (-1)) = xs.length - 1 := by
    unfold HT.sIx
    simp
    omega
  rw [e, List.dropLast_eq_take]
end Ord

set_option pp.deepTerms false
set_option pp.maxSteps 1500
namespace Ord
open PySem PySem.Spec PyProof.Rows L2 LamX
open Mir (Tr)
theorem nf_map {H : Hp} {m CM CN dx : Addr} {f : Addr} {v : V} (h : H m = some (.ins CM dx (mfl f v))) : ∀ dy k h l r i j, H m ≠ some (.ins CN dy (nfl k h l r i j)) := fun dy k g l r i j z => by
  rw [h] at z
  have e : mfl f v = nfl k g l r i j := by
    have := Option.some.inj z
    injection this
  have e2 := congrArg List.length e
  simp [mfl, nfl] at e2
/-- all but q and m stands -/
structure KB2 (q m : Addr) (H H' : Hp) : Prop where
  keep : ∀ b o, b ≠ q → b ≠ m → H b = some o → H' b = some o
  tk : TK H H'
theorem KB2.of_kb {q m : Addr} {H H' : Hp} (k : KB q H H') : KB2 q m H H' := ⟨fun b o n _ e => k.keep b o n e, k.tk⟩
theorem KB2.trans {q m : Addr} {H H1 H2 : Hp} (a : KB2 q m H H1) (b : KB2 q m H1 H2) : KB2 q m H H2 := ⟨fun c o n n2 e => b.keep c o n n2 (a.keep c o n n2 e), a.tk.trans b.tk⟩
theorem KB2.wr {q m : Addr} {H H' : Hp} {o u : HO} (k : KB2 q m H H') (e : H' m = some u) (nf : ¬ Fixed u) : KB2 q m H (upd H' m o) :=
  ⟨fun b y n n2 h => by rw [upd_ne n2]; exact k.keep b y n n2 h, k.tk.trans (TK.wr e nf)⟩
section
variable {P : Program} {w : World} {K : PySem.W.Frag} {mg : Str → Option Value} {base : Heap} {CN CM : Addr}
/-! ### Map -/
def N_Map___init__ : List Str := ["self", "order"]
theorem sc_Map___init__ : FnScope ["self", "order"] ["self", "order"] (defScope st_Map___init__) := ⟨rfl, rfl, rfl, by decide +kernel, rfl, by decide +kernel, by decide +kernel⟩
def spMapI (CM : Addr) : Sp := fun vs H Q _ => ∃ (p dx f : Addr), vs = [.ref p, .ref f] ∧ H p = some (.ins CM dx []) ∧ ∀ H', (∀ b o, b ≠ p → H b = some o → H' b = some o) → H' p = some (.ins CM dx (mfl f .non)) → Q .non H'
theorem ok_Map (d_Map : Di K mg CM "Map" "Map.__init__" st_Map___init__ ["self", "order"]) (TM : MapT K CM) : FnOk P w K mg base CX0 1 d_Map.f d_Map.fd ["self", "order"] (spMapI CM) := by
  refine d_Map.F.ok sc_Map___init__ (fun vs H Q E h => ?_) (fun cdv A outer s H vs Q E hr h => ?_)
  · obtain ⟨p, dx, f, rfl, _⟩ := h
    rfl
  · obtain ⟨p, dx, f, rfl, hp, hQ⟩ := h
    have nd := sc_Map___init__.nd
    refine ⟨_, (pss_cons (ps_fld (pv 0) (pv 1) rfl)
  (pss_one (ps_fld (pv 0) pe_non rfl))), ?_⟩
    refine ⟨_, rfl, _, rfl, p, CM, dx, _, rfl, hp, TM.cl, TM.no, by decide, ?_⟩
    refine ⟨_, rfl, p, CM, dx, _, rfl, upd_same, TM.cl, TM.nr, by simp only [putF, List.length_cons, List.length_nil]; decide, ?_⟩
    refine hQ _ (fun b o n e => by rw [upd_ne n, upd_ne n]; exact e) ?_
    rw [mfl_put0]
    exact upd_same
/-! ### size -/
def N_Map_size : List Str := ["self"]
theorem sc_Map_size : FnScope ["self"] ["self"] (defScope st_Map_size) := ⟨rfl, rfl, rfl, by decide +kernel, rfl, by decide +kernel, by decide +kernel⟩
def spSizeM (CM CN : Addr) : Sp := fun vs H Q _ => ∃ (q m dx f : Addr) (v : V) (t : Tr V), vs = [.ref m] ∧ H m = some (.ins CM dx (mfl f v)) ∧ TreeAt CN q H v t ∧ Q (.int (Mir.cnt t : Nat)) H
theorem ok_size_m (d_Map_size : Dm K CM "size" "Map.size" st_Map_size ["self"]) (d_many_of : Df K mg "many_of" st_many_of ["node"]) (TN : NodeT K CN) (TM : MapT K CM) : FnOk P w K mg base CX0 2 d_Map_size.f d_Map_size.fd ["self"] (spSizeM CM CN) := by
  have G_many_of : FnOk P w K mg base CX0 1 d_many_of.f d_many_of.fd ["node"] (spMany CN) := ok_many_of d_many_of TN
  refine d_Map_size.F.ok sc_Map_size (fun vs H Q E h => ?_) (fun cdv A outer s H vs Q E hr h => ?_)
  · obtain ⟨q, m, dx, f, v, t, rfl, _⟩ := h
    rfl
  · obtain ⟨q, m, dx, f, v, t, rfl, hm, ht, hQ⟩ := h
    have nd := sc_Map_size.nd
    refine ⟨_, (pss_one (ps_ret (pe_cd (d := d_many_of) G_many_of (hr.mono (by omega)) (pa_cons (pe_fld (pv 0) rfl) pa_nil)))), ?_⟩
    exact ⟨_, rfl, m, CM, dx, _, _, rfl, hm, TM.cl, TM.nr, mfl_root _ _, q, v, t, rfl, ht, hQ⟩
/-! ### put -/
def N_Map_put : List Str := ["self", "key", "held", "is_new"]
theorem sc_Map_put : FnScope ["self", "key", "held", "is_new"] ["self", "key", "held"] (defScope st_Map_put) := ⟨rfl, rfl, rfl, by decide +kernel, rfl, by decide +kernel, by decide +kernel⟩
def spPut (P : Program) (w : World) (K : PySem.W.Frag) (mg : Str → Option Value) (base : Heap) (CM CN : Addr) : Sp := fun vs H Q _ => ∃ (O : Orc P w K mg base) (m dx : Addr) (v key held : V) (t : Tr V) (l : Lg), vs = [.ref m, key, held] ∧
  H m = some (.ins CM dx (mfl O.f v)) ∧ m ≠ O.q ∧ TreeAt CN O.q H v t ∧ Mir.lev t ≤ 12 ∧ O.Log l H ∧ TDom O t H ∧ O.Dom key H ∧ l.length ≤ 80000 ∧
  ∀ H' v', KB2 O.q m H H' → H' m = some (.ins CM dx (mfl O.f v')) → TreeAt CN O.q H' v' (Mir.wk O.ans t key held l).1 → O.Log (Mir.wk O.ans t key held l).2.2 H' → Q (.bl (Mir.wk O.ans t key held l).2.1) H'
theorem ok_put (d_Map_put : Dm K CM "put" "Map.put" st_Map_put ["self", "key", "held"]) (d_with_key : Df K mg "with_key" st_with_key ["node", "key", "held", "order"]) (d_even : Df K mg "even" st_even ["key", "held", "left", "right"]) (d_lean : Df K mg "lean" st_lean ["node"]) (d_right_up : Df K mg "right_up" st_right_up ["node"]) (d_left_up : Df K mg "left_up" st_left_up ["node"]) (d_Node : Di K mg CN "Node" "Node.__init__" st_Node___init__ ["self", "key", "held", "left", "right"]) (d_level_of : Df K mg "level_of" st_level_of ["node"]) (d_many_of : Df K mg "many_of" st_many_of ["node"]) (TN : NodeT K CN) (TM : MapT K CM) (mMax : mg "max" = none) : FnOk P w K mg base CX0 19 d_Map_put.f d_Map_put.fd ["self", "key", "held"] (spPut P w K mg base CM CN) := by
  have G_with_key : FnOk P w K mg base CX0 18 d_with_key.f d_with_key.fd ["node", "key", "held", "order"] (spWk P w K mg base CN 12) := ok_with_key d_with_key d_even d_lean d_right_up d_left_up d_Node d_level_of d_many_of TN mMax 12
  refine d_Map_put.F.ok sc_Map_put (fun vs H Q E h => ?_) (fun cdv A outer s H vs Q E hr h => ?_)
  · obtain ⟨O, m, dx, v, key, held, t, l, rfl, _⟩ := h
    rfl
  · obtain ⟨O, m, dx, v, key, held, t, l, rfl, hm, mq, ht, hlv, hL, hD, hk, hc, hQ⟩ := h
    have nd := sc_Map_put.nd
    refine ⟨_, (pss_cons (ps_asg (pe_cd (d := d_with_key) G_with_key (hr.mono (by omega)) (pa_cons (pe_fld (pv 0) rfl) (pa_cons (pv 1) (pa_cons (pv 2) (pa_cons (pe_fld (pv 0) rfl) pa_nil))))) (pg_tup (by rfl) (pgs_cons (pg_attr (pv 0)) (pgs_cons (pg_name (i := 3) nd rfl (Or.inl rfl)) pgs_nil))))
  (pss_one (ps_ret (pv 3)))), ?_⟩
    refine ⟨_, rfl, m, CM, dx, _, _, rfl, hm, TM.cl, TM.nr, mfl_root _ _, _, rfl, _, rfl, _, rfl, m, CM, dx, _, _, rfl, hm, TM.cl, TM.no, mfl_order _ _, O, v, key, held, t, l, rfl, ht, hlv, hL, hD, hk, by omega, fun H1 tu v1 kb1 t1 htu hL1 => ?_⟩
    have hm1 := kb1.keep _ _ mq hm
    refine ⟨tu, _, rfl, SqT.of htu, rfl, _, _, rfl, _, rfl, m, CM, dx, _, rfl, hm1, TM.cl, TM.nr, by simp [mfl], _, _, rfl, rfl, ?_⟩
    refine ⟨_, rfl, ?_⟩
    rw [mfl_put]
    refine hQ _ v1 ((KB2.of_kb kb1).wr hm1 nf_ins) upd_same (t1.offk (nf_map hm1) fun b o n e => by rw [upd_ne n]; exact e) (O.wr hL1 hm1 nf_ins mq)
/-! ### drop -/
def N_Map_drop : List Str := ["self", "key", "was_there"]
theorem sc_Map_drop : FnScope ["self", "key", "was_there"] ["self", "key"] (defScope st_Map_drop) := ⟨rfl, rfl, rfl, by decide +kernel, rfl, by decide +kernel, by decide +kernel⟩
def spDrop (P : Program) (w : World) (K : PySem.W.Frag) (mg : Str → Option Value) (base : Heap) (CM CN : Addr) : Sp := fun vs H Q _ => ∃ (O : Orc P w K mg base) (m dx : Addr) (v key : V) (t : Tr V) (l : Lg), vs = [.ref m, key] ∧
  H m = some (.ins CM dx (mfl O.f v)) ∧ m ≠ O.q ∧ TreeAt CN O.q H v t ∧ Mir.lev t ≤ 12 ∧ O.Log l H ∧ TDom O t H ∧ O.Dom key H ∧ l.length ≤ 80000 ∧
  ∀ H' v', KB2 O.q m H H' → H' m = some (.ins CM dx (mfl O.f v')) → TreeAt CN O.q H' v' (Mir.wo O.ans t key l).1 → O.Log (Mir.wo O.ans t key l).2.2 H' → Q (.bl (Mir.wo O.ans t key l).2.1) H'
theorem ok_drop (d_Map_drop : Dm K CM "drop" "Map.drop" st_Map_drop ["self", "key"]) (d_without_key : Df K mg "without_key" st_without_key ["node", "key", "order"]) (d_joined : Df K mg "joined" st_joined ["left", "right"]) (d_without_first : Df K mg "without_first" st_without_first ["node"]) (d_even : Df K mg "even" st_even ["key", "held", "left", "right"]) (d_lean : Df K mg "lean" st_lean ["node"]) (d_right_up : Df K mg "right_up" st_right_up ["node"]) (d_left_up : Df K mg "left_up" st_left_up ["node"]) (d_Node : Di K mg CN "Node" "Node.__init__" st_Node___init__ ["self", "key", "held", "left", "right"]) (d_level_of : Df K mg "level_of" st_level_of ["node"]) (d_many_of : Df K mg "many_of" st_many_of ["node"]) (TN : NodeT K CN) (TM : MapT K CM) (mMax : mg "max" = none) : FnOk P w K mg base CX0 33 d_Map_drop.f d_Map_drop.fd ["self", "key"] (spDrop P w K mg base CM CN) := by
  have G_without_key : FnOk P w K mg base CX0 32 d_without_key.f d_without_key.fd ["node", "key", "order"] (spWo P w K mg base CN 12) := ok_without_key d_without_key d_joined d_without_first d_even d_lean d_right_up d_left_up d_Node d_level_of d_many_of TN mMax 12
  refine d_Map_drop.F.ok sc_Map_drop (fun vs H Q E h => ?_) (fun cdv A outer s H vs Q E hr h => ?_)
  · obtain ⟨O, m, dx, v, key, t, l, rfl, _⟩ := h
    rfl
  · obtain ⟨O, m, dx, v, key, t, l, rfl, hm, mq, ht, hlv, hL, hD, hk, hc, hQ⟩ := h
    have nd := sc_Map_drop.nd
    refine ⟨_, (pss_cons (ps_asg (pe_cd (d := d_without_key) G_without_key (hr.mono (by omega)) (pa_cons (pe_fld (pv 0) rfl) (pa_cons (pv 1) (pa_cons (pe_fld (pv 0) rfl) pa_nil)))) (pg_tup (by rfl) (pgs_cons (pg_attr (pv 0)) (pgs_cons (pg_name (i := 2) nd rfl (Or.inl rfl)) pgs_nil))))
  (pss_one (ps_ret (pv 2)))), ?_⟩
    refine ⟨_, rfl, m, CM, dx, _, _, rfl, hm, TM.cl, TM.nr, mfl_root _ _, _, rfl, _, rfl, m, CM, dx, _, _, rfl, hm, TM.cl, TM.no, mfl_order _ _, O, v, key, t, l, rfl, ht, hlv, hlv, hL, hD, hk, by omega, fun H1 tu v1 kb1 t1 htu hL1 => ?_⟩
    have hm1 := kb1.keep _ _ mq hm
    refine ⟨tu, _, rfl, SqT.of htu, rfl, _, _, rfl, _, rfl, m, CM, dx, _, rfl, hm1, TM.cl, TM.nr, by simp [mfl], _, _, rfl, rfl, ?_⟩
    refine ⟨_, rfl, ?_⟩
    rw [mfl_put]
    refine hQ _ v1 ((KB2.of_kb kb1).wr hm1 nf_ins) upd_same (t1.offk (nf_map hm1) fun b o n e => by rw [upd_ne n]; exact e) (O.wr hL1 hm1 nf_ins mq)
/-! ### at, where the place is there -/
def N_Map_at : List Str := ["self", "place", "node"]
theorem sc_Map_at : FnScope ["self", "place", "node"] ["self", "place"] (defScope st_Map_at) := ⟨rfl, rfl, rfl, by decide +kernel, rfl, by decide +kernel, by decide +kernel⟩
def spAt (CM CN : Addr) : Sp := fun vs H Q _ => ∃ (q m dx f : Addr) (v : V) (t : Tr V) (i : Nat), vs = [.ref m, .int (i : Int)] ∧ H m = some (.ins CM dx (mfl f v)) ∧ TreeAt CN q H v t ∧ i < Mir.cnt t ∧
  ∀ tu k g, H tu = none → (Mir.toL t)[i]? = some (k, g) → Q (.ref tu) (upd H tu (.tup [k, g]))
theorem ok_at (d_Map_at : Dm K CM "at" "Map.at" st_Map_at ["self", "place"]) (d_Map_size : Dm K CM "size" "Map.size" st_Map_size ["self"]) (d_many_of : Df K mg "many_of" st_many_of ["node"]) (TN : NodeT K CN) (TM : MapT K CM) : FnOk P w K mg base CX0 3 d_Map_at.f d_Map_at.fd ["self", "place"] (spAt CM CN) := by
  have G_many_of : FnOk P w K mg base CX0 1 d_many_of.f d_many_of.fd ["node"] (spMany CN) := ok_many_of d_many_of TN
  have G_Map_size : FnOk P w K mg base CX0 2 d_Map_size.f d_Map_size.fd ["self"] (spSizeM CM CN) := ok_size_m d_Map_size d_many_of TN TM
  refine d_Map_at.F.ok sc_Map_at (fun vs H Q E h => ?_) (fun cdv A outer s H vs Q E hr h => ?_)
  · obtain ⟨q, m, dx, f, v, t, i, rfl, _⟩ := h
    rfl
  · obtain ⟨q, m, dx, f, v, t, i, rfl, hm, ht, hi, hQ⟩ := h
    have nd := sc_Map_at.nd
    refine ⟨_, (pss_cons (ps_if (pt_not (pt_chain op_le op_lt pe_int (pv 1) (pe_md0 (d := d_Map_size) TM.cl G_Map_size (hr.mono (by omega)) (pv 0))))
    (pss_one ps_dead)
    pss_nil)
  (pss_cons (ps_set (i := 2) nd rfl (Or.inl rfl) (pe_fld (pv 0) rfl))
  (pss_cons (ps_while PassesOwn.never (pt_cmpR op_ne (pe_cd (d := d_many_of) G_many_of (hr.mono (by omega)) (pa_cons (pe_fld (pv 2) rfl) pa_nil)) (pv 1) (nomark _))
    (pss_one (ps_if (pt_cmpR op_lt (pv 1) (pe_cd (d := d_many_of) G_many_of (hr.mono (by omega)) (pa_cons (pe_fld (pv 2) rfl) pa_nil)) (nomark _))
    (pss_one (ps_set (i := 2) nd rfl (Or.inl rfl) (pe_fld (pv 2) rfl)))
    (pss_cons (ps_set (i := 1) nd rfl (Or.inl rfl) (pe_op op_subE (pe_op op_subE (pv 1) (pe_cd (d := d_many_of) G_many_of (hr.mono (by omega)) (pa_cons (pe_fld (pv 2) rfl) pa_nil))) pe_int))
  (pss_one (ps_set (i := 2) nd rfl (Or.inl rfl) (pe_fld (pv 2) rfl)))))))
  (pss_one (ps_ret (pe_tup (pa_cons (pe_fld (pv 2) rfl) (pa_cons (pe_fld (pv 2) rfl) pa_nil)))))))), ?_⟩
    refine ⟨_, rfl, _, _, rfl, rfl, _, rfl, ?_⟩
    refine iteD (fun _ => ?_) (fun h => absurd (show (0 : Int) ≤ (i : Int) by omega) h)
    refine ⟨_, rfl, m, dx, _, rfl, hm, mfl_no _ _ (by decide +kernel) (by decide +kernel), q, m, dx, f, v, t, rfl, hm, ht, _, _, rfl, rfl, _, rfl, ?_⟩
    rw [show decide ((i : Int) < ((Mir.cnt t : Nat) : Int)) = true from decide_eq_true (by omega)]
    refine iteF ?_
    refine ⟨_, rfl, m, CM, dx, _, _, rfl, hm, TM.cl, TM.nr, mfl_root _ _, ?_⟩
    refine ⟨fun mu σ H' => ∃ (v' : V) (t' : Tr V) (j : Nat), σ = [some (.ref m), some (.int (j : Nat)), some v'] ∧ H' = H ∧ mu = Mir.lev t' ∧ TreeAt CN q H v' t' ∧ j < Mir.cnt t' ∧ (Mir.toL t)[i]? = (Mir.toL t')[j]?, ⟨_, v, t, i, rfl, rfl, rfl, ht, hi, rfl⟩, ?_⟩
    rintro mu σ H' ⟨v', t', j, rfl, rfl, rfl, ht', hj, he⟩
    cases t' with
    | lf => simp [Mir.cnt] at hj
    | nd k g l r =>
      obtain ⟨a, dy, lv, rv, rfl, aq, ha, h1, h2⟩ := ht'
      have hj' : j < 1 + Mir.cnt l + Mir.cnt r := hj
      rw [Mir.toL_at] at he
      refine ⟨_, rfl, a, CN, dy, _, _, rfl, ha, TN.cl, TN.nl, nfl_left _ _ _ _ _ _, q, lv, l, rfl, h1, _, rfl, rfl, _, rfl, ?_⟩
      have eI : decide (V.int ((Mir.cnt l : Nat) : Int) = V.int ((j : Nat) : Int)) = decide (Mir.cnt l = j) := by
        by_cases e : Mir.cnt l = j
        · rw [e, decide_eq_true rfl, decide_eq_true rfl]
        · rw [decide_eq_false e, decide_eq_false fun z => e (by have := V.int.inj z; omega)]
      rw [eI]
      by_cases ej : Mir.cnt l = j
      · rw [decide_eq_true ej]
        refine iteF ?_
        rw [if_neg (by omega), if_pos ej.symm] at he
        refine ⟨_, rfl, a, CN, dy, _, _, rfl, ha, TN.cl, TN.nk, nfl_key _ _ _ _ _ _, _, rfl, a, CN, dy, _, _, rfl, ha, TN.cl, TN.nh, nfl_held _ _ _ _ _ _, by show 2 ≤ sizeLine; decide, fun tu ntu => ?_⟩
        exact hQ tu k g ntu he
      · rw [decide_eq_false ej]
        refine iteT ⟨_, fun _ _ h => h, ?_⟩
        refine ⟨_, rfl, _, rfl, a, CN, dy, _, _, rfl, ha, TN.cl, TN.nl, nfl_left _ _ _ _ _ _, q, lv, l, rfl, h1, _, _, rfl, rfl, _, rfl, ?_⟩
        refine iteD (fun c => ?_) (fun c => ?_)
        · have c' : (j : Int) < (Mir.cnt l : Int) := c
          rw [if_pos (by omega)] at he
          refine ⟨_, rfl, a, CN, dy, _, _, rfl, ha, TN.cl, TN.nl, nfl_left _ _ _ _ _ _, ?_⟩
          exact ⟨_, by show Mir.lev l < 1 + max (Mir.lev l) (Mir.lev r); omega, lv, l, j, rfl, rfl, rfl, h1, by omega, he⟩
        · have c' : ¬ (j : Int) < (Mir.cnt l : Int) := c
          rw [if_neg (by omega), if_neg (by omega)] at he
          refine ⟨_, rfl, _, rfl, a, CN, dy, _, _, rfl, ha, TN.cl, TN.nl, nfl_left _ _ _ _ _ _, q, lv, l, rfl, h1, _, _, ((j - Mir.cnt l : Nat) : Int), rfl, rfl, (by show ((j - Mir.cnt l : Nat) : Int) = (j : Int) - (Mir.cnt l : Int); omega), _, _, ((j - Mir.cnt l - 1 : Nat) : Int), rfl, rfl, (by show ((j - Mir.cnt l - 1 : Nat) : Int) = ((j - Mir.cnt l : Nat) : Int) - 1; omega), ?_⟩
          refine ⟨_, rfl, a, CN, dy, _, _, rfl, ha, TN.cl, TN.nr, nfl_right _ _ _ _ _ _, ?_⟩
          exact ⟨_, by show Mir.lev r < 1 + max (Mir.lev l) (Mir.lev r); omega, rv, r, j - Mir.cnt l - 1, rfl, rfl, rfl, h2, by omega, he⟩
/-! ### pairs -/
def N_Map_pairs : List Str := ["self", "place"]
theorem sc_Map_pairs : FnScope ["self", "place"] ["self"] (defScope st_Map_pairs) := ⟨rfl, rfl, rfl, by decide +kernel, rfl, by decide +kernel, by decide +kernel⟩
def spPairs (CM CN : Addr) : Sp := fun vs H Q _ => ∃ (q m dx f : Addr) (v : V) (t : Tr V), vs = [.ref m] ∧ H m = some (.ins CM dx (mfl f v)) ∧ TreeAt CN q H v t ∧ Mir.cnt t ≤ 1000 ∧
  ∀ H' D ps, Same H H' → H D = none → H' D = some (.lst ps) → LogAt H' ps (Mir.toL t) → Q (.ref D) H'
theorem ok_pairs (d_Map_pairs : Dm K CM "pairs" "Map.pairs" st_Map_pairs ["self"]) (d_Map_at : Dm K CM "at" "Map.at" st_Map_at ["self", "place"]) (d_Map_size : Dm K CM "size" "Map.size" st_Map_size ["self"]) (d_many_of : Df K mg "many_of" st_many_of ["node"]) (TN : NodeT K CN) (TM : MapT K CM) (mRange : mg "range" = none) : FnOk P w K mg base CX0 5 d_Map_pairs.f d_Map_pairs.fd ["self"] (spPairs CM CN) := by
  have G_Map_size : FnOk P w K mg base CX0 2 d_Map_size.f d_Map_size.fd ["self"] (spSizeM CM CN) := ok_size_m d_Map_size d_many_of TN TM
  have G_Map_at : FnOk P w K mg base CX0 3 d_Map_at.f d_Map_at.fd ["self", "place"] (spAt CM CN) := ok_at d_Map_at d_Map_size d_many_of TN TM
  refine d_Map_pairs.F.ok sc_Map_pairs (fun vs H Q E h => ?_) (fun cdv A outer s H vs Q E hr h => ?_)
  · obtain ⟨q, m, dx, f, v, t, rfl, _⟩ := h
    rfl
  · obtain ⟨q, m, dx, f, v, t, rfl, hm, ht, hz, hQ⟩ := h
    have nd := sc_Map_pairs.nd
    refine ⟨_, (pss_one (ps_ret (pe_lc (own := [("place", 1)]) (g := gName 1) rfl nd (pi_range1 (by rfl) mRange (pa_cons (pe_md0 (d := d_Map_size) TM.cl G_Map_size (hr.mono (by omega)) (pv 0)) pa_nil)) (blkOk_by (own := [("place", 1)]) (N := N_Map_pairs) (sc := defScope st_Map_pairs) (by decide +kernel)) (fun _ _ _ _ _ => pg_name (i := 1) nd rfl (Or.inl rfl)) (fun _ _ _ _ _ => pts_nil) (fun _ _ _ _ _ => (pe_md (d := d_Map_at) TM.cl G_Map_at (hr.mono (by omega)) (pv 0) (pa_cons (pv 1) pa_nil)))))), ?_⟩
    have hlen := Mir.cnt_len t
    refine ⟨_, rfl, m, dx, _, rfl, hm, mfl_no _ _ (by decide +kernel) (by decide +kernel), q, m, dx, f, v, t, rfl, hm, ht, _, rfl, by omega, by omega, fun D hD => ?_⟩
    refine lc_range (lo := 0) (n := ((Mir.cnt t : Nat) : Int).toNat) (fun i H1 => ∃ ps, Same H H1 ∧ H1 D = some (.lst ps) ∧ LogAt H1 ps ((Mir.toL t).take i)) ⟨[], Same.new hD, upd_same, .nil⟩ ?_ ?_
    · rintro i H1 hi ⟨ps, s1, h1, hl⟩
      rw [show ((0 : Int) + (i : Nat)) = ((i : Nat) : Int) from Int.zero_add _]
      have ll := hl.length
      rw [List.length_take] at ll
      refine ⟨rfl, ?_⟩
      refine ⟨_, rfl, m, dx, _, rfl, s1 _ _ hm, mfl_no _ _ (by decide +kernel) (by decide +kernel), _, rfl, q, m, dx, f, v, t, i, rfl, s1 _ _ hm, ht.same s1, by omega, fun tu k g ntu e => ?_⟩
      have hD1 := kn (o := .tup [k, g]) ntu h1
      have s2 := s1.trans (Same.new (o := .tup [k, g]) ntu)
      have dt : D ≠ tu := ne_of_none h1 ntu
      refine ⟨ps, hD1, small1000 (by omega), ps ++ [.ref tu], fun b o eo => ?_, upd_same, ?_⟩
      · rw [upd_ne (ne_of_none eo hD)]
        exact s2 _ _ eo
      · rw [List.take_add_one, e]
        have kT : TK H1 (upd (upd H1 tu (.tup [k, g])) D (.lst (ps ++ [.ref tu]))) := (TK.new ntu).trans (TK.wr hD1 nf_lst)
        exact (hl.tk kT).snoc (by rw [upd_ne dt.symm]; exact upd_same)
    · rintro H1 ⟨ps, s1, h1, hl⟩
      rw [Int.toNat_natCast, hlen, List.take_length] at hl
      exact hQ H1 D ps s1 hD h1 hl
end
end Ord

set_option pp.deepTerms false
set_option pp.maxSteps 1500
namespace Ord
open PySem PySem.Spec PyProof.Rows L2
open Mir (Tr)
/-- an own class of exceptions -/
structure ExcT (K : PySem.W.Frag) (mg : Str → Option Value) (x : Str) (C : Addr) : Prop where
  g : mg x = some (.ref C)
  xP : PySem.W.excIn K C [.type "ValueError", .type "Exception", .type "BaseException", .type "object"] "ValueError.__new__" = true
  kP : PySem.W.keepIn K (.ref C) = true
  bP : PySem.W.subIn K (.ref C) (.type "BaseException") = some true
  tP : PySem.W.typeIn K (.ref C) = some (.type "type")
  eP : PySem.W.exmOne K (.ref C) (.ref C) = some true
section
variable {X : Cx} {CX : CXT} {k : Nat} {C : Addr} {m qual x : Str} {st : Stmt} {ps : List Str} {sp : Sp} {p pos apos : Pos} {e o : Expr} {es : List Expr} {t : TA} {ta : TE} {E : L2.St → XK}
def tMethAt (C : Addr) (m : Str) (sp : Sp) (E : L2.St → XK) (ta : TE) (t : TA) : TE := fun σ H Q => ta σ H fun x H1 => ∃ a dx fs, x = .ref a ∧ H1 a = some (.ins C dx fs) ∧ fs.lookup m = none ∧ t σ H1 fun vs H2 => sp (x :: vs) H2 Q (E σ)
theorem pe_mdS {pl : Sem Bool} {d : Dm X.K C m qual st ps} (cl : Cls X.K C) (G : FnOk X.prog X.w X.K X.mg X.base CX k d.f d.fd ps sp) (hr : Room k X.A) (hx : ∀ σ, PassesAt CX X σ (E σ)) (ho : PE X o ta) (ha : PA X (e :: es) t)
    (hst : starEach (e :: es) X.env = (false, eval e X.env) :: starEach es X.env := by rfl) (hpl : (backTo pos (starEach es X.env)).any (·.1) = false := by rfl)
    (ht : eval (.Call (.Attribute o m apos) (e :: es) [] pos) X.env = (do
      let ov ← eval o X.env
      standAt apos.atName
      let (f, first) ← holding [ov] (getMethod ov m pl)
      callWith pos f first (backTo pos (starEach (e :: es) X.env)) (backToKw pos (keywordEach [] X.env))) := by rfl) : PE X (.Call (.Attribute o m apos) (e :: es) [] pos) (tMethAt C m sp E ta t) := by
  refine ⟨fun pins s σ H Q I h => ?_⟩
  refine PySem.W.methodCall_KW (pl := pl) (thn (ho.run pins s σ H _ I h) fun u s1 ⟨x, H1, I1, rx, a, dx, fs, ex, ea, l, q⟩ => ?_) ht
  subst ex
  obtain rfl : u = Value.ref a := rx
  refine getmeth_ok I1 ea cl d.me l ?_
  refine PySem.W.callWith_K (first := [.ref a]) (h₀ := X.base) I.ok.mod.kin d.me.kp (thn (ha.run pos pins s1 σ H1 _ I1 q) fun us s2 ⟨vs, H2, I2, r, q2⟩ => ⟨I2.kIn, ?_⟩) hst hpl
  exact run_fnS (us := .ref a :: us) (vs := .ref a :: vs) G hr d.b (hx σ) I2 (.cons rfl r) q2
end
/-- the node that was found -/
def NodeOf (CN : Addr) (H : Hp) (nv : V) : Option (V × V) → Prop
  | none => nv = .non
  | some (k, g) => ∃ (a dy : Addr) (lv rv : V) (i j : Nat), nv = .ref a ∧ H a = some (.ins CN dy (nfl k g lv rv i j))
section
variable {P : Program} {w : World} {K : PySem.W.Frag} {mg : Str → Option Value} {base : Heap} {CN CM CE : Addr}
/-! ### found -/
def N_Map_found : List Str := ["self", "key", "node", "passed", "side"]
theorem sc_Map_found : FnScope ["self", "key", "node", "passed", "side"] ["self", "key"] (defScope st_Map_found) := ⟨rfl, rfl, rfl, by decide +kernel, rfl, by decide +kernel, by decide +kernel⟩
def spFound (P : Program) (w : World) (K : PySem.W.Frag) (mg : Str → Option Value) (base : Heap) (CM CN : Addr) : Sp := fun vs H Q _ => ∃ (O : Orc P w K mg base) (m dx : Addr) (v key : V) (t : Tr V) (l : Lg), vs = [.ref m, key] ∧
  H m = some (.ins CM dx (mfl O.f v)) ∧ m ≠ O.q ∧ TreeAt CN O.q H v t ∧ O.Log l H ∧ TDom O t H ∧ O.Dom key H ∧ l.length + Mir.lev t ≤ 90000 ∧
  ∀ H' tu nv, KB O.q H H' → H tu = none → H' tu = some (.tup [nv, .int ((Mir.fnd O.ans t key 0 l).2.1 : Nat)]) → O.Log (Mir.fnd O.ans t key 0 l).2.2 H' → NodeOf CN H' nv (Mir.fnd O.ans t key 0 l).1 → Q (.ref tu) H'
theorem ok_found (d_Map_found : Dm K CM "found" "Map.found" st_Map_found ["self", "key"]) (d_many_of : Df K mg "many_of" st_many_of ["node"]) (TN : NodeT K CN) (TM : MapT K CM) : FnOk P w K mg base CX0 4 d_Map_found.f d_Map_found.fd ["self", "key"] (spFound P w K mg base CM CN) := by
  have G_many_of : FnOk P w K mg base CX0 1 d_many_of.f d_many_of.fd ["node"] (spMany CN) := ok_many_of d_many_of TN
  refine d_Map_found.F.ok sc_Map_found (fun vs H Q E h => ?_) (fun cdv A outer s H vs Q E hr h => ?_)
  · obtain ⟨O, m, dx, v, key, t, l, rfl, _⟩ := h
    rfl
  · obtain ⟨O, m, dx, v, key, t, l, rfl, hm, mq, ht, hL, hD, hk, hc, hQ⟩ := h
    have nd := sc_Map_found.nd
    refine ⟨_, (pss_cons (ps_set (i := 2) nd rfl (Or.inl rfl) (pe_fld (pv 0) rfl))
  (pss_cons (ps_set (i := 3) nd rfl (Or.inl rfl) pe_int)
  (pss_cons (ps_while PassesOwn.never (pt_cmpR op_notN (pv 2) pe_non (nomark _))
    (pss_cons (ps_set (i := 4) nd rfl (Or.inl rfl) (pe_callF (pv 0) O.run (hr.mono (by omega)) (pa_cons (pe_fld (pv 2) rfl) (pa_cons (pv 1) pa_nil))))
  (pss_cons (ps_if (pt_cmpR op_eq (pv 4) pe_int (nomark _))
    (pss_one (ps_ret (pe_tup (pa_cons (pv 2) (pa_cons (pe_op op_addE (pv 3) (pe_cd (d := d_many_of) G_many_of (hr.mono (by omega)) (pa_cons (pe_fld (pv 2) rfl) pa_nil))) pa_nil)))))
    pss_nil)
  (pss_one (ps_if (pt_cmpR op_gt (pv 4) pe_int (nomark _))
    (pss_one (ps_set (i := 2) nd rfl (Or.inl rfl) (pe_fld (pv 2) rfl)))
    (pss_cons (ps_set (i := 3) nd rfl (Or.inl rfl) (pe_op op_addE (pe_op op_addE (pv 3) (pe_cd (d := d_many_of) G_many_of (hr.mono (by omega)) (pa_cons (pe_fld (pv 2) rfl) pa_nil))) pe_int))
  (pss_one (ps_set (i := 2) nd rfl (Or.inl rfl) (pe_fld (pv 2) rfl)))))))))
  (pss_one (ps_ret (pe_tup (pa_cons pe_non (pa_cons (pv 3) pa_nil)))))))), ?_⟩
    refine ⟨_, rfl, m, CM, dx, _, _, rfl, hm, TM.cl, TM.nr, mfl_root _ _, ?_⟩
    refine ⟨fun mu σ H' => ∃ (v' : V) (t' : Tr V) (p : Nat) (l' : Lg) (v4 : Option V), σ = [some (.ref m), some key, some v', some (.int (p : Nat)), v4] ∧ mu = Mir.lev t' ∧ KB O.q H H' ∧ TreeAt CN O.q H' v' t' ∧ O.Log l' H' ∧ TDom O t' H' ∧ l'.length + Mir.lev t' ≤ l.length + Mir.lev t ∧ Mir.fnd O.ans t key 0 l = Mir.fnd O.ans t' key p l',
      ⟨_, v, t, 0, l, none, rfl, rfl, KB.refl _ _, ht, hL, hD, Nat.le_refl _, rfl⟩, ?_⟩
    rintro mu σ H1 ⟨v', t', p, l', v4, rfl, rfl, kb, ht', hL', hD', hl', he⟩
    cases t' with
    | lf =>
      have he : Mir.fnd O.ans t key 0 l = (none, p, l') := he
      rw [he] at hQ
      obtain rfl : v' = .non := ht'
      refine ⟨_, rfl, rfl, _, rfl, ?_⟩
      rw [non_non]
      refine iteF ?_
      refine ⟨_, rfl, by show 2 ≤ sizeLine; decide, fun tu ntu => ?_⟩
      exact hQ _ tu .non (kb.trans (KB.new ntu)) (kb.free (Orc.nq hL' ntu) ntu) upd_same (O.stay (Stay.new ntu) hL') rfl
    | nd k g l2 r2 =>
      obtain ⟨a, dy, lv, rv, rfl, aq, ha, h1, h2⟩ := ht'
      have hl2 : l'.length + (1 + max (Mir.lev l2) (Mir.lev r2)) ≤ l.length + Mir.lev t := hl'
      refine ⟨_, rfl, rfl, _, rfl, ?_⟩
      rw [non_ref]
      refine iteT ⟨_, fun _ _ h => h, ?_⟩
      have hm1 := kb.keep _ _ mq hm
      refine ⟨_, rfl, m, CM, dx, _, rfl, hm1, TM.cl, TM.no, mfl_order _ _, O.isf hL', _, rfl, a, CN, dy, _, _, rfl, ha, TN.cl, TN.nk, nfl_key _ _ _ _ _ _, _, rfl, O.isf hL', k, key, l', rfl, hL', by omega, hD'.k, O.dom kb.tk hk, fun H2 kb2 hL2 => ?_⟩
      have kb3 := kb.trans kb2
      have ha2 := kb2.keep _ _ aq ha
      have h12 := h1.kb kb2
      have h22 := h2.kb kb2
      obtain ⟨sd, esd⟩ : ∃ sd, sd = O.ans l' k key := ⟨_, rfl⟩
      have wk0 : Mir.fnd O.ans (.nd k g l2 r2) key p l' = if sd = 0 then (some (k, g), p + Mir.cnt l2, l' ++ [(k, key)]) else if 0 < sd then Mir.fnd O.ans l2 key p (l' ++ [(k, key)]) else Mir.fnd O.ans r2 key (p + Mir.cnt l2 + 1) (l' ++ [(k, key)]) := by
        rw [esd]
        rfl
      have he := he.trans wk0
      rw [← esd]
      clear wk0
      refine ⟨_, rfl, rfl, _, rfl, iteI (fun c1 => ?_) (fun c1 => ?_)⟩
      · rw [if_pos c1] at he
        rw [he] at hQ
        refine ⟨_, rfl, _, rfl, _, rfl, a, CN, dy, _, _, rfl, ha2, TN.cl, TN.nl, nfl_left _ _ _ _ _ _, O.q, lv, l2, rfl, h12, _, _, ((p + Mir.cnt l2 : Nat) : Int), rfl, rfl, (by show ((p + Mir.cnt l2 : Nat) : Int) = (p : Int) + (Mir.cnt l2 : Int); omega), by show 2 ≤ sizeLine; decide, fun tu ntu => ?_⟩
        refine hQ _ tu (.ref a) (kb3.trans (KB.new ntu)) (kb3.free (Orc.nq hL2 ntu) ntu) upd_same (O.stay (Stay.new ntu) hL2) ⟨a, dy, lv, rv, _, _, rfl, kn ntu ha2⟩
      · rw [if_neg c1] at he
        refine ⟨_, rfl, _, _, rfl, rfl, _, rfl, ?_⟩
        refine iteD (fun c2 => ?_) (fun c2 => ?_)
        · have c2' : 0 < sd := c2
          rw [if_pos c2'] at he
          refine ⟨_, rfl, a, CN, dy, _, _, rfl, ha2, TN.cl, TN.nl, nfl_left _ _ _ _ _ _, ?_⟩
          exact ⟨_, by show Mir.lev l2 < 1 + max (Mir.lev l2) (Mir.lev r2); omega, lv, l2, p, _, _, rfl, rfl, kb3, h12, hL2, (hD'.l).tk kb2.tk, by rw [List.length_append, List.length_singleton]; omega, he⟩
        · have c2' : ¬ 0 < sd := c2
          rw [if_neg c2'] at he
          refine ⟨_, rfl, _, rfl, a, CN, dy, _, _, rfl, ha2, TN.cl, TN.nl, nfl_left _ _ _ _ _ _, O.q, lv, l2, rfl, h12, _, _, ((p + Mir.cnt l2 : Nat) : Int), rfl, rfl, (by show ((p + Mir.cnt l2 : Nat) : Int) = (p : Int) + (Mir.cnt l2 : Int); omega), _, _, ((p + Mir.cnt l2 + 1 : Nat) : Int), rfl, rfl, (by show ((p + Mir.cnt l2 + 1 : Nat) : Int) = ((p + Mir.cnt l2 : Nat) : Int) + 1; omega), ?_⟩
          refine ⟨_, rfl, a, CN, dy, _, _, rfl, ha2, TN.cl, TN.nr, nfl_right _ _ _ _ _ _, ?_⟩
          exact ⟨_, by show Mir.lev r2 < 1 + max (Mir.lev l2) (Mir.lev r2); omega, rv, r2, p + Mir.cnt l2 + 1, _, _, rfl, rfl, kb3, h22, hL2, (hD'.r).tk kb2.tk, by rw [List.length_append, List.length_singleton]; omega, he⟩
/-! ### has, rank -/
def N_Map_has : List Str := ["self", "key"]
theorem sc_Map_has : FnScope ["self", "key"] ["self", "key"] (defScope st_Map_has) := ⟨rfl, rfl, rfl, by decide +kernel, rfl, by decide +kernel, by decide +kernel⟩
def spHas (P : Program) (w : World) (K : PySem.W.Frag) (mg : Str → Option Value) (base : Heap) (CM CN : Addr) : Sp := fun vs H Q _ => ∃ (O : Orc P w K mg base) (m dx : Addr) (v key : V) (t : Tr V) (l : Lg), vs = [.ref m, key] ∧
  H m = some (.ins CM dx (mfl O.f v)) ∧ m ≠ O.q ∧ TreeAt CN O.q H v t ∧ O.Log l H ∧ TDom O t H ∧ O.Dom key H ∧ l.length + Mir.lev t ≤ 90000 ∧
  ∀ H', KB O.q H H' → O.Log (Mir.fnd O.ans t key 0 l).2.2 H' → Q (.bl (Mir.fnd O.ans t key 0 l).1.isSome) H'
theorem ok_has (d_Map_has : Dm K CM "has" "Map.has" st_Map_has ["self", "key"]) (d_Map_found : Dm K CM "found" "Map.found" st_Map_found ["self", "key"]) (d_many_of : Df K mg "many_of" st_many_of ["node"]) (TN : NodeT K CN) (TM : MapT K CM) : FnOk P w K mg base CX0 5 d_Map_has.f d_Map_has.fd ["self", "key"] (spHas P w K mg base CM CN) := by
  have G_Map_found : FnOk P w K mg base CX0 4 d_Map_found.f d_Map_found.fd ["self", "key"] (spFound P w K mg base CM CN) := ok_found d_Map_found d_many_of TN TM
  refine d_Map_has.F.ok sc_Map_has (fun vs H Q E h => ?_) (fun cdv A outer s H vs Q E hr h => ?_)
  · obtain ⟨O, m, dx, v, key, t, l, rfl, _⟩ := h
    rfl
  · obtain ⟨O, m, dx, v, key, t, l, rfl, hm, mq, ht, hL, hD, hk, hc, hQ⟩ := h
    have nd := sc_Map_has.nd
    refine ⟨_, (pss_one (ps_ret (pe_cmpR op_notN (pe_ix ix_tup (pe_md (d := d_Map_found) TM.cl G_Map_found (hr.mono (by omega)) (pv 0) (pa_cons (pv 1) pa_nil)) pe_int (fun _ _ => rfl)) pe_non (nomark _)))), ?_⟩
    refine ⟨_, rfl, m, dx, _, rfl, hm, mfl_no _ _ (by decide +kernel) (by decide +kernel), _, rfl, O, m, dx, v, key, t, l, rfl, hm, mq, ht, hL, hD, hk, hc, fun H1 tu nv kb ntu htu hL1 hn => ?_⟩
    refine ⟨tu, _, 0, nv, rfl, rfl, SqT.of htu, rfl, rfl, ?_⟩
    have h := hQ H1 kb hL1
    cases e : (Mir.fnd O.ans t key 0 l).1 with
    | none =>
      rw [e] at h hn
      obtain rfl : nv = .non := hn
      rw [non_non]
      exact h
    | some z =>
      rw [e] at h hn
      obtain ⟨a, dy, lv, rv, i, j, rfl, _⟩ := hn
      rw [non_ref]
      exact h
def N_Map_rank : List Str := ["self", "key"]
theorem sc_Map_rank : FnScope ["self", "key"] ["self", "key"] (defScope st_Map_rank) := ⟨rfl, rfl, rfl, by decide +kernel, rfl, by decide +kernel, by decide +kernel⟩
def spRank (P : Program) (w : World) (K : PySem.W.Frag) (mg : Str → Option Value) (base : Heap) (CM CN : Addr) : Sp := fun vs H Q _ => ∃ (O : Orc P w K mg base) (m dx : Addr) (v key : V) (t : Tr V) (l : Lg), vs = [.ref m, key] ∧
  H m = some (.ins CM dx (mfl O.f v)) ∧ m ≠ O.q ∧ TreeAt CN O.q H v t ∧ O.Log l H ∧ TDom O t H ∧ O.Dom key H ∧ l.length + Mir.lev t ≤ 90000 ∧
  ∀ H', KB O.q H H' → O.Log (Mir.fnd O.ans t key 0 l).2.2 H' → Q (.int ((Mir.fnd O.ans t key 0 l).2.1 : Nat)) H'
theorem ok_rank (d_Map_rank : Dm K CM "rank" "Map.rank" st_Map_rank ["self", "key"]) (d_Map_found : Dm K CM "found" "Map.found" st_Map_found ["self", "key"]) (d_many_of : Df K mg "many_of" st_many_of ["node"]) (TN : NodeT K CN) (TM : MapT K CM) : FnOk P w K mg base CX0 5 d_Map_rank.f d_Map_rank.fd ["self", "key"] (spRank P w K mg base CM CN) := by
  have G_Map_found : FnOk P w K mg base CX0 4 d_Map_found.f d_Map_found.fd ["self", "key"] (spFound P w K mg base CM CN) := ok_found d_Map_found d_many_of TN TM
  refine d_Map_rank.F.ok sc_Map_rank (fun vs H Q E h => ?_) (fun cdv A outer s H vs Q E hr h => ?_)
  · obtain ⟨O, m, dx, v, key, t, l, rfl, _⟩ := h
    rfl
  · obtain ⟨O, m, dx, v, key, t, l, rfl, hm, mq, ht, hL, hD, hk, hc, hQ⟩ := h
    have nd := sc_Map_rank.nd
    refine ⟨_, (pss_one (ps_ret (pe_ix ix_tup (pe_md (d := d_Map_found) TM.cl G_Map_found (hr.mono (by omega)) (pv 0) (pa_cons (pv 1) pa_nil)) pe_int (fun _ _ => rfl)))), ?_⟩
    refine ⟨_, rfl, m, dx, _, rfl, hm, mfl_no _ _ (by decide +kernel) (by decide +kernel), _, rfl, O, m, dx, v, key, t, l, rfl, hm, mq, ht, hL, hD, hk, hc, fun H1 tu nv kb ntu htu hL1 hn => ?_⟩
    exact ⟨tu, _, 1, _, rfl, rfl, SqT.of htu, rfl, hQ H1 kb hL1⟩
/-! ### get, where the key is there -/
def N_Map_get : List Str := ["self", "key", "node", "passed"]
theorem sc_Map_get : FnScope ["self", "key", "node", "passed"] ["self", "key"] (defScope st_Map_get) := ⟨rfl, rfl, rfl, by decide +kernel, rfl, by decide +kernel, by decide +kernel⟩
def spGet (P : Program) (w : World) (K : PySem.W.Frag) (mg : Str → Option Value) (base : Heap) (CM CN : Addr) : Sp := fun vs H Q _ => ∃ (O : Orc P w K mg base) (m dx : Addr) (v key k g : V) (t : Tr V) (l : Lg), vs = [.ref m, key] ∧
  H m = some (.ins CM dx (mfl O.f v)) ∧ m ≠ O.q ∧ TreeAt CN O.q H v t ∧ O.Log l H ∧ TDom O t H ∧ O.Dom key H ∧ l.length + Mir.lev t ≤ 90000 ∧ (Mir.fnd O.ans t key 0 l).1 = some (k, g) ∧
  ∀ H', KB O.q H H' → O.Log (Mir.fnd O.ans t key 0 l).2.2 H' → Q g H'
theorem ok_get (d_Map_get : Dm K CM "get" "Map.get" st_Map_get ["self", "key"]) (d_Map_found : Dm K CM "found" "Map.found" st_Map_found ["self", "key"]) (d_many_of : Df K mg "many_of" st_many_of ["node"]) (TN : NodeT K CN) (TM : MapT K CM) : FnOk P w K mg base CX0 5 d_Map_get.f d_Map_get.fd ["self", "key"] (spGet P w K mg base CM CN) := by
  have G_Map_found : FnOk P w K mg base CX0 4 d_Map_found.f d_Map_found.fd ["self", "key"] (spFound P w K mg base CM CN) := ok_found d_Map_found d_many_of TN TM
  refine d_Map_get.F.ok sc_Map_get (fun vs H Q E h => ?_) (fun cdv A outer s H vs Q E hr h => ?_)
  · obtain ⟨O, m, dx, v, key, k, g, t, l, rfl, _⟩ := h
    rfl
  · obtain ⟨O, m, dx, v, key, k, g, t, l, rfl, hm, mq, ht, hL, hD, hk, hc, hf, hQ⟩ := h
    have nd := sc_Map_get.nd
    refine ⟨_, (pss_cons (ps_asg (pe_md (d := d_Map_found) TM.cl G_Map_found (hr.mono (by omega)) (pv 0) (pa_cons (pv 1) pa_nil)) (pg_tup (by rfl) (pgs_cons (pg_name (i := 2) nd rfl (Or.inl rfl)) (pgs_cons (pg_name (i := 3) nd rfl (Or.inl rfl)) pgs_nil))))
  (pss_cons (ps_if (pt_cmpR op_isN (pv 2) pe_non (nomark _))
    (pss_one ps_dead)
    pss_nil)
  (pss_one (ps_ret (pe_fld (pv 2) rfl))))), ?_⟩
    refine ⟨_, rfl, m, dx, _, rfl, hm, mfl_no _ _ (by decide +kernel) (by decide +kernel), _, rfl, O, m, dx, v, key, t, l, rfl, hm, mq, ht, hL, hD, hk, hc, fun H1 tu nv kb ntu htu hL1 hn => ?_⟩
    rw [hf] at hn
    obtain ⟨a, dy, lv, rv, i, j, rfl, ha⟩ := hn
    refine ⟨tu, _, rfl, SqT.of htu, rfl, _, _, rfl, _, _, rfl, rfl, ?_⟩
    refine ⟨_, rfl, rfl, _, rfl, ?_⟩
    rw [non_ref]
    refine iteF ?_
    exact ⟨_, rfl, a, CN, dy, _, _, rfl, ha, TN.cl, TN.nh, nfl_held _ _ _ _ _ _, hQ H1 kb hL1⟩
/-! ### get, where it isn't -/
def spGetX (P : Program) (w : World) (K : PySem.W.Frag) (mg : Str → Option Value) (base : Heap) (CM CN CE : Addr) : Sp := fun vs H _ E => ∃ (O : Orc P w K mg base) (m dx : Addr) (v key : V) (t : Tr V) (l : Lg), vs = [.ref m, key] ∧
  H m = some (.ins CM dx (mfl O.f v)) ∧ m ≠ O.q ∧ TreeAt CN O.q H v t ∧ O.Log l H ∧ TDom O t H ∧ O.Dom key H ∧ l.length + Mir.lev t ≤ 90000 ∧ (Mir.fnd O.ans t key 0 l).1 = none ∧
  ∀ H', KB O.q H H' → O.Log (Mir.fnd O.ans t key 0 l).2.2 H' → E (.ref CE) none H'
theorem ok_getX (d_Map_get : Dm K CM "get" "Map.get" st_Map_get ["self", "key"]) (d_Map_found : Dm K CM "found" "Map.found" st_Map_found ["self", "key"]) (d_many_of : Df K mg "many_of" st_many_of ["node"]) (TN : NodeT K CN) (TM : MapT K CM) (TE : ExcT K mg "NoElement" CE) : FnOk P w K mg base (L2.CX P w) 5 d_Map_get.f d_Map_get.fd ["self", "key"] (spGetX P w K mg base CM CN CE) := by
  have G_Map_found : FnOk P w K mg base CX0 4 d_Map_found.f d_Map_found.fd ["self", "key"] (spFound P w K mg base CM CN) := ok_found d_Map_found d_many_of TN TM
  refine d_Map_get.F.okX sc_Map_get (fun vs H Q E h => ?_) (fun cdv A outer s H vs Q E hr h => ?_)
  · obtain ⟨O, m, dx, v, key, t, l, rfl, _⟩ := h
    rfl
  · obtain ⟨O, m, dx, v, key, t, l, rfl, hm, mq, ht, hL, hD, hk, hc, hf, hQ⟩ := h
    have nd := sc_Map_get.nd
    refine ⟨_, (pss_cons (ps_asg (pe_md (d := d_Map_found) TM.cl G_Map_found (hr.mono (by omega)) (pv 0) (pa_cons (pv 1) pa_nil)) (pg_tup (by rfl) (pgs_cons (pg_name (i := 2) nd rfl (Or.inl rfl)) (pgs_cons (pg_name (i := 3) nd rfl (Or.inl rfl)) pgs_nil))))
  (pss_cons (ps_if (pt_cmpR op_isN (pv 2) pe_non (nomark _))
    (pss_one (ps_raise rfl (takes_of rfl rfl rfl rfl) (pmk_own PySem.F.excBase_ValueError TE.xP TE.g TE.kP (raises_own TE.bP TE.tP) rfl)))
    pss_nil)
  (PSs.nox (pss_one (ps_ret (pe_fld (pv 2) rfl)))))), ?_⟩
    refine ⟨_, rfl, m, dx, _, rfl, hm, mfl_no _ _ (by decide +kernel) (by decide +kernel), _, rfl, O, m, dx, v, key, t, l, rfl, hm, mq, ht, hL, hD, hk, hc, fun H1 tu nv kb ntu htu hL1 hn => ?_⟩
    rw [hf] at hn
    obtain rfl : nv = .non := hn
    refine ⟨tu, _, rfl, SqT.of htu, rfl, _, _, rfl, _, _, rfl, rfl, ?_⟩
    refine ⟨_, rfl, rfl, _, rfl, ?_⟩
    rw [non_non]
    refine iteT ?_
    exact hQ H1 kb hL1
/-! ### at, where the place isn't -/
def spAtX (CM CN CE : Addr) : Sp := fun vs H _ E => ∃ (q m dx f : Addr) (v : V) (t : Tr V) (i : Int), vs = [.ref m, .int i] ∧ H m = some (.ins CM dx (mfl f v)) ∧ TreeAt CN q H v t ∧ ¬ (0 ≤ i ∧ i < (Mir.cnt t : Int)) ∧ E (.ref CE) none H
theorem ok_atX (d_Map_at : Dm K CM "at" "Map.at" st_Map_at ["self", "place"]) (d_Map_size : Dm K CM "size" "Map.size" st_Map_size ["self"]) (d_many_of : Df K mg "many_of" st_many_of ["node"]) (TN : NodeT K CN) (TM : MapT K CM) (TE : ExcT K mg "NoPlace" CE) : FnOk P w K mg base (L2.CX P w) 3 d_Map_at.f d_Map_at.fd ["self", "place"] (spAtX CM CN CE) := by
  have G_many_of : FnOk P w K mg base CX0 1 d_many_of.f d_many_of.fd ["node"] (spMany CN) := ok_many_of d_many_of TN
  have G_Map_size : FnOk P w K mg base CX0 2 d_Map_size.f d_Map_size.fd ["self"] (spSizeM CM CN) := ok_size_m d_Map_size d_many_of TN TM
  refine d_Map_at.F.okX sc_Map_at (fun vs H Q E h => ?_) (fun cdv A outer s H vs Q E hr h => ?_)
  · obtain ⟨q, m, dx, f, v, t, i, rfl, _⟩ := h
    rfl
  · obtain ⟨q, m, dx, f, v, t, i, rfl, hm, ht, hi, hE⟩ := h
    have nd := sc_Map_at.nd
    refine ⟨_, (pss_cons (ps_if (pt_not (pt_chain op_le op_lt pe_int (pv 1) (pe_md0 (d := d_Map_size) TM.cl G_Map_size (hr.mono (by omega)) (pv 0))))
    (pss_one (ps_raise rfl (takes_of rfl rfl rfl rfl) (pmk_own PySem.F.excBase_ValueError TE.xP TE.g TE.kP (raises_own TE.bP TE.tP) rfl)))
    pss_nil)
  (PSs.nox (pss_cons (ps_set (i := 2) nd rfl (Or.inl rfl) (pe_fld (pv 0) rfl))
  (pss_cons (ps_while PassesOwn.never (pt_cmpR op_ne (pe_cd (d := d_many_of) G_many_of (hr.mono (by omega)) (pa_cons (pe_fld (pv 2) rfl) pa_nil)) (pv 1) (nomark _))
    (pss_one (ps_if (pt_cmpR op_lt (pv 1) (pe_cd (d := d_many_of) G_many_of (hr.mono (by omega)) (pa_cons (pe_fld (pv 2) rfl) pa_nil)) (nomark _))
    (pss_one (ps_set (i := 2) nd rfl (Or.inl rfl) (pe_fld (pv 2) rfl)))
    (pss_cons (ps_set (i := 1) nd rfl (Or.inl rfl) (pe_op op_subE (pe_op op_subE (pv 1) (pe_cd (d := d_many_of) G_many_of (hr.mono (by omega)) (pa_cons (pe_fld (pv 2) rfl) pa_nil))) pe_int))
  (pss_one (ps_set (i := 2) nd rfl (Or.inl rfl) (pe_fld (pv 2) rfl)))))))
  (pss_one (ps_ret (pe_tup (pa_cons (pe_fld (pv 2) rfl) (pa_cons (pe_fld (pv 2) rfl) pa_nil))))))))), ?_⟩
    refine ⟨_, rfl, _, _, rfl, rfl, _, rfl, ?_⟩
    refine iteD (fun h0 => ?_) (fun _ => ⟨_, rfl, iteT hE⟩)
    have h0' : (0 : Int) ≤ i := h0
    refine ⟨_, rfl, m, dx, _, rfl, hm, mfl_no _ _ (by decide +kernel) (by decide +kernel), q, m, dx, f, v, t, rfl, hm, ht, _, _, rfl, rfl, _, rfl, ?_⟩
    rw [show decide (i < ((Mir.cnt t : Nat) : Int)) = false from decide_eq_false (by omega)]
    exact iteT hE
end
end Ord

namespace Ord
open PySem PySem.Spec PyProof.Rows L2 LamX
section
variable {X : Cx} {σ : L2.St} {H1 H2 H3 : Hp} {q : Addr}
theorem Lent.same (L : Lent X σ H1 H2) : Same H1 H2 := fun _ _ e => L.keep e
theorem Lent.fzK (L : Lent X σ H1 H2) (hq : ∀ ob, H2 q ≠ some (Fz ob)) (k : KB q H2 H3) {b : Addr} (hb : b ∈ X.env.cells.map (·.2)) : ∃ o, H3 b = some (Fz o) := by
  obtain ⟨o, v, e, _⟩ := L.fz b hb
  exact ⟨o, k.keep b _ (fun z => hq o (by rw [← z]; exact e)) e⟩
theorem Lent.out3 (L : Lent X σ H1 H2) (hq : ∀ ob, H2 q ≠ some (Fz ob)) (k : KB q H2 H3) {b : Addr} {o : HO} (e : H3 b = some o) (n : ∀ ob, o ≠ Fz ob) : b ∉ X.env.cells.map (·.2) := fun hb => by
  obtain ⟨ob, e'⟩ := L.fzK hq k hb
  rw [e] at e'
  exact n ob (Option.some.inj e')
/-- what stood ahead of the call stands behind it -/
theorem Lent.kb (L : Lent X σ H1 H2) (k : KB q H2 H3) : KB q H1 (strip X.env.cells H3) := by
  have nc : ∀ b o, H1 b = some o → b ∉ X.env.cells.map (·.2) := fun b o e hb => by
    rw [L.none_ b hb] at e
    cases e
  exact ⟨fun b o n e => by rw [strip_out (nc b o e)]; exact k.keep b o n (L.keep e), fun b xs e => by rw [strip_out (nc b _ e)]; exact k.tk b xs (L.keep e)⟩
/-- what is found behind the call is there, but the cells -/
theorem Lent.at3 (L : Lent X σ H1 H2) (hq : ∀ ob, H2 q ≠ some (Fz ob)) (k : KB q H2 H3) {b : Addr} {o : HO} (e : H3 b = some o) (n : ∀ ob, o ≠ Fz ob) : strip X.env.cells H3 b = some o := by
  rw [strip_out (L.out3 hq k e n)]
  exact e
theorem Lent.tk3 (L : Lent X σ H1 H2) (hq : ∀ ob, H2 q ≠ some (Fz ob)) (k : KB q H2 H3) : TK H3 (strip X.env.cells H3) := fun b xs e => L.at3 hq k e tup_fz
/-- a new object was not there ahead of the call -/
theorem Lent.free1 (L : Lent X σ H1 H2) {p : Addr} (n : H2 p = none) : H1 p = none := by
  by_cases hb : p ∈ X.env.cells.map (·.2)
  · exact L.none_ p hb
  · rw [← L.out p hb]
    exact n
theorem lst_nfz {H : Hp} {q : Addr} {xs : List V} (e : H q = some (.lst xs)) (ob : Obj) : H q ≠ some (Fz ob) := fun z => by
  rw [e] at z
  cases z
/-- the cells that a lambda made here captured, lent -/
theorem Lent.clos (L : Lent X σ H1 H2) {scope : Scope} {fr : List Str} {js : List Nat} (hfree : ∀ y ∈ scope.names, y.2 = .free → X.env.scope.names.lookup y.1 = some .cell ∨ X.env.scope.names.lookup y.1 = some .free)
    (hfr : ∀ y ∈ fr, (y, NameKind.free) ∈ scope.names) (hjs : js.map (fun j => X.N[j]?) = fr.map some) : ClosAt (cloFrom X.env.cells scope.names []) fr (js.map (NdefX.slotAt σ)) H2 := by
  have hf : ∀ y ∈ scope.names, y.2 = .free → ∃ c, X.env.cells.lookup y.1 = some c := fun y hy e => L.has _ (hfree y hy e)
  refine ⟨?_, fun b hb => ?_, fun x y c e1 e2 => L.inj x y c (NdefX.clo_cm hf e1) (NdefX.clo_cm hf e2), fun i y e => ?_⟩
  · have q := congrArg List.length hjs
    rw [List.length_map, List.length_map] at q
    rw [List.length_map]
    exact q
  · obtain ⟨⟨x, c⟩, hm, e⟩ := List.mem_map.mp hb
    have e : c = b := e
    subst e
    rcases cloFrom_mem hm with hm | ⟨h1, h2⟩
    · cases hm
    · obtain ⟨c1, hc⟩ := hf _ h1 rfl
      have hc : X.env.cells.lookup x = some c1 := hc
      have e2 : c = c1 := by
        rw [h2, hc]
        rfl
      subst e2
      exact L.fz _ (lookup_mem2 hc)
  · have k := hfree (y, .free) (hfr y (List.mem_of_getElem? e)) rfl
    obtain ⟨c, hc⟩ := L.has y k
    refine ⟨c, NdefX.clo_has hf (hfr y (List.mem_of_getElem? e)) hc, fun v ev => ?_⟩
    have e2 : (js.map fun j => X.N[j]?)[i]? = some (some y) := by
      rw [hjs, List.getElem?_map, e]
      rfl
    rw [List.getElem?_map] at e2 ev
    cases ej : js[i]? with
    | none =>
      rw [ej] at e2
      cases e2
    | some j =>
      rw [ej] at e2 ev
      have hj : X.N[j]? = some y := Option.some.inj (show some (X.N[j]?) = some (some y) from e2)
      have hs : σ[j]? = some (some v) := NdefX.slotAt_some (Option.some.inj (show some (NdefX.slotAt σ j) = some (some v) from ev))
      obtain ⟨c', hc', hv⟩ := L.val j y v hj hs k
      rw [hc] at hc'
      cases hc'
      exact hv
/-- the log of the questions, at the call -/
theorem Lent.log {f c' : Addr} {pm ctv : Value} {qn : Str} {params : Arguments} {body : Expr} {scope : Scope} {fr : List Str} {js : List Nat} (L : Lent X σ H1 H2)
    (hfree : ∀ y ∈ scope.names, y.2 = .free → X.env.scope.names.lookup y.1 = some .cell ∨ X.env.scope.names.lookup y.1 = some .free) (hfr : ∀ y ∈ fr, (y, NameKind.free) ∈ scope.names) (hjs : js.map (fun j => X.N[j]?) = fr.map some)
    (f1 : H1 f = some (Fz (PySem.W.kla_obj "<lambda>" qn params body scope (cloFrom X.env.cells scope.names []) pm c' ctv))) (c1 : H1 c' = some (CodeO c' qn)) {l : Lg} {qs : List V} (h4 : H1 q = some (.lst qs)) (h5 : LogAt H1 qs l) :
    AskLog f q c' pm ctv qn params body scope (cloFrom X.env.cells scope.names []) fr (js.map (NdefX.slotAt σ)) l H2 :=
  ⟨L.keep f1, L.keep c1, L.clos hfree hfr hjs, qs, L.keep h4, h5.tk (Same.tk L.same)⟩
end
theorem Tabs.kb {T : List (Addr × Str)} {q : Addr} {H H' : Hp} (t : Tabs T H) (k : KB q H H') (hq : ∀ p ∈ T, p.1 ≠ q) (hc : ∀ c x, H c = some (CodeO c x) → c ≠ q) : Tabs T H' := fun p hp => by
  obtain ⟨ps, h1, h2, h3⟩ := t p hp
  refine ⟨ps, k.keep _ _ (hq p hp) h1, h2, fun pos cv e => ?_⟩
  obtain ⟨c, e1, e2⟩ := h3 pos cv e
  exact ⟨c, e1, k.keep _ _ (hc c _ e2) e2⟩
theorem code_ne {H : Hp} {q c : Addr} {x : Str} {xs : List V} (e : H q = some (.lst xs)) (h : H c = some (CodeO c x)) : c ≠ q := fun z => by
  rw [z, e] at h
  exact absurd (Option.some.inj h) (by unfold CodeO; intro y; cases y)
theorem tbl_ne {T : List (Addr × Str)} {H : Hp} {q : Addr} {xs : List V} (e : H q = some (.lst xs)) (t : Tabs T H) : ∀ p ∈ T, p.1 ≠ q := fun p hp z => by
  obtain ⟨ps, h1, _⟩ := t p hp
  rw [z, e] at h1
  cases h1
theorem Tabs.kb1 {T : List (Addr × Str)} {q : Addr} {H H' : Hp} {xs : List V} (t : Tabs T H) (e : H q = some (.lst xs)) (k : KB q H H') : Tabs T H' := Tabs.kb t k (tbl_ne e t) fun _ _ h => code_ne e h
theorem Tabs.same {T : List (Addr × Str)} {H H' : Hp} (t : Tabs T H) (s : Same H H') : Tabs T H' := t.ext s
/-- behind a lambda's making all but the tables stands -/
theorem ExtN.keep {H H' : Hp} (e : ExtN H H') {b : Addr} {o : HO} (h : H b = some o) (n : ∀ ps, o ≠ .tbl ps) : H' b = some o := e b o h n
theorem lst_tbl {xs : List V} (ps : Array Value) : HO.lst xs ≠ .tbl ps := fun z => by cases z
theorem tup_tbl {xs : List V} (ps : Array Value) : HO.tup xs ≠ .tbl ps := fun z => by cases z
theorem ExtN.tk {H H' : Hp} (e : ExtN H H') : TK H H' := fun b xs h => e b _ h tup_tbl
theorem ExtN.sq {K : PySem.W.Frag} {H H' : Hp} {a : Addr} {xs : List V} (e : ExtN H H') (h : SqL K H a xs) : SqL K H' a xs := by
  rcases h with (h | ⟨o, h⟩) | h
  · exact .inl (.inl (e _ _ h lst_tbl))
  · exact .inl (.inr ⟨o, e _ _ h fun ps z => by cases z⟩)
  · exact .inr h
end Ord
namespace Ord
open PySem PySem.Spec PyProof.Rows L2 LamX
section
variable {P : Program} {w : World} {K : PySem.W.Frag} {mg : Str → Option Value} {base : Heap}
/-- mkOrc, the lambda read off the heap -/
def orcAt {H1 : Hp} {f q c' : Addr} {pm ctv : Value} {qn : Str} {params : Arguments} {body : Expr} {scope : Scope} {cl : List (Str × Addr)} (_f1 : H1 f = some (Fz (PySem.W.kla_obj "<lambda>" qn params body scope cl pm c' ctv)))
    (ps fr : List Str) (ws : List (Option V)) (ans : Lg → V → V → Int) (Dom : V → Hp → Prop) {t : TE}
    (S : NdefX.NScope (ps ++ fr) ps fr scope) (two : ps.length = 2) (hw : ws.length = fr.length)
    (hb : ∀ us : List Value, us.length = ps.length → bindArgs (PySem.W.kla_fn "<lambda>" qn params body scope cl pm (.ref c') ctv) ⟨us, []⟩ = pure (ps.zip us))
    (dom : ∀ {x : V} {H H' : Hp}, TK H H' → Dom x H → Dom x H')
    (B : ∀ (A : Around) (outer : List Env) (s : Shared) (H0 : Hp), Room 2 (A.deeper (NdefX.envF (lamNF qn params scope cl c') f s.heap.objs.size)) → PE (NdefX.ncx CX0 P w K mg base (ps ++ fr) (lamNF qn params scope cl c') f A outer s H0 E0).nox body t)
    (hq : ∀ (x y : V) (l : Lg) (qs : List V) (H : Hp) (Q : VK), H q = some (.lst qs) → LogAt H qs l → l.length < 100000 → Dom x H → Dom y H →
      (∀ a, H a = none → Q (.int (ans l x y)) (upd (upd H a (.tup [x, y])) q (.lst (qs ++ [.ref a])))) → t (some x :: some y :: ws) H Q) : Orc P w K mg base :=
  mkOrc (f := f) (q := q) (c' := c') (pm := pm) (ctv := ctv) (qn := qn) (params := params) (body := body) (scope := scope) (cl := cl) (ps := ps) (fr := fr) (ws := ws) ans Dom S two hw hb dom B hq
/-- as Fun.ok, the code object told -/
theorem Fun.okc {x qual : Str} {st : Stmt} {f : Addr} {fd : FuncData} {N ps : List Str} {k : Nat} {sp : Sp} {c : Addr} (F : Fun K x qual st f fd) (hc : fd.code = .ref c) (S : FnScope N ps (defScope st)) (len : ∀ vs H Q E, sp vs H Q E → vs.length = ps.length)
    (hbody : ∀ (A : Around) (outer : List Env) (s : Shared) (H : Hp) (vs : List V) (Q : VK) (E : XK), Room k (A.deeper (envOfC qual (defScope st) s.heap.objs.size f (.ref c))) → sp vs H Q E →
      ∃ t, PSs (cxOf CX0 P w K mg base N qual (defScope st) f (.ref c) A outer s H E).nox (defBody st) t ∧ t { nx := fun _ H' => Q .non H', rt := Q } (start N vs) H) : FnOk P w K mg base CX0 (k + 1) f fd ps sp := by
  obtain ⟨oc, od, kV, doc, pm, an, cdv, ct, osl, rfl, lk, hcd⟩ := F.ex
  have e : cdv = .ref c := hc
  subst e
  refine fn_of lk hcd S len fun A outer s H vs Q E hr hsp => ?_
  obtain ⟨t, h, q⟩ := hbody A outer s H vs Q E hr hsp
  exact ⟨t, h.nox, q⟩
end
end Ord
namespace Ord
open PySem PySem.Spec PyProof.Rows L2 LamX
/-- behind a call with the cells lent: what is known of the heap, the heap a letter -/
theorem lentQ_of {X : Cx} {Q : VK} {v : V} {H3 : Hp} {F : Hp → Prop} (f : F (strip X.env.cells H3)) (h : ∀ H4, F H4 → Q v H4) : lentQ X Q v H3 := h _ f
end Ord
namespace Ord
open PySem PySem.Spec PyProof.Rows L2 LamX
/-- q is no place where the list at a is tracked -/
def Apart (K : PySem.W.Frag) (q a : Addr) (xs : List V) : Prop := a ≠ q ∨ ∀ H, SqL K H a xs
theorem Apart.new {K : PySem.W.Frag} {H : Hp} {q a : Addr} {xs : List V} (h : SqL K H a xs) (n : H q = none) : Apart K q a xs := by
  rcases h with (h | ⟨o, h⟩) | h
  · exact .inl (ne_of_none h n)
  · exact .inl (ne_of_none h n)
  · exact .inr fun _ => .inr h
theorem Apart.kb {K : PySem.W.Frag} {H H' : Hp} {q a : Addr} {xs : List V} (p : Apart K q a xs) (h : SqL K H a xs) (k : KB q H H') : SqL K H' a xs := by
  rcases p with p | p
  · exact sq_keep h fun o e => k.keep a o p e
  · exact p H'
theorem Apart.wr {K : PySem.W.Frag} {H : Hp} {q a : Addr} {xs : List V} {o : HO} (p : Apart K q a xs) (h : SqL K H a xs) : SqL K (upd H q o) a xs := by
  rcases p with p | p
  · exact sq_keep h fun u e => by rw [upd_ne p]; exact e
  · exact p _
end Ord
namespace Ord
open PySem PySem.Spec PyProof.Rows L2 LamX
section
variable {X : Cx} {σ : L2.St} {H1 H2 H3 : Hp} {q : Addr}
theorem Lent.fzN (L : Lent X σ H1 H2) (hq : H1 q ≠ none) (k : KB q H2 H3) {b : Addr} (hb : b ∈ X.env.cells.map (·.2)) : ∃ o, H3 b = some (Fz o) := by
  obtain ⟨o, v, e, _⟩ := L.fz b hb
  exact ⟨o, k.keep b _ (fun z => hq (by rw [← z]; exact L.none_ b hb)) e⟩
theorem Lent.at4 (L : Lent X σ H1 H2) (hq : H1 q ≠ none) (k : KB q H2 H3) {b : Addr} {o : HO} (e : H3 b = some o) (n : ∀ ob, o ≠ Fz ob) : strip X.env.cells H3 b = some o := by
  have hb : b ∉ X.env.cells.map (·.2) := fun hb => by
    obtain ⟨ob, e'⟩ := L.fzN hq k hb
    rw [e] at e'
    exact n ob (Option.some.inj e')
  rw [strip_out hb]
  exact e
theorem Lent.tk4 (L : Lent X σ H1 H2) (hq : H1 q ≠ none) (k : KB q H2 H3) : TK H3 (strip X.env.cells H3) := fun b xs e => L.at4 hq k e tup_fz
theorem some_nn {H : Hp} {b : Addr} {o : HO} (e : H b = some o) : H b ≠ none := fun z => by
  rw [e] at z
  cases z
end
/-! ### an order that writes nothing down -/
section
variable {P : Program} {w : World} {K : PySem.W.Frag} {mg : Str → Option Value} {base : Heap}
def AnsLog (f c' : Addr) (pm ctv : Value) (qn : Str) (params : Arguments) (body : Expr) (scope : Scope) (cl : List (Str × Addr)) (fr : List Str) (ws : List (Option V)) (_ : Lg) (H : Hp) : Prop :=
  H f = some (Fz (PySem.W.kla_obj "<lambda>" qn params body scope cl pm c' ctv)) ∧ H c' = some (CodeO c' qn) ∧ ClosAt cl fr ws H
def orcNo {H1 : Hp} {f c' : Addr} {pm ctv : Value} {qn : Str} {params : Arguments} {body : Expr} {scope : Scope} {cl : List (Str × Addr)} (_f1 : H1 f = some (Fz (PySem.W.kla_obj "<lambda>" qn params body scope cl pm c' ctv)))
    (ps fr : List Str) (ws : List (Option V)) (ans : V → V → Int) (Dom : V → Hp → Prop) {t : TE}
    (S : NdefX.NScope (ps ++ fr) ps fr scope) (two : ps.length = 2) (hw : ws.length = fr.length)
    (hb : ∀ us : List Value, us.length = ps.length → bindArgs (PySem.W.kla_fn "<lambda>" qn params body scope cl pm (.ref c') ctv) ⟨us, []⟩ = pure (ps.zip us))
    (dom : ∀ {x : V} {H H' : Hp}, TK H H' → Dom x H → Dom x H')
    (B : ∀ (A : Around) (outer : List Env) (s : Shared) (H0 : Hp), Room 2 (A.deeper (NdefX.envF (lamNF qn params scope cl c') f s.heap.objs.size)) → PE (NdefX.ncx CX0 P w K mg base (ps ++ fr) (lamNF qn params scope cl c') f A outer s H0 E0).nox body t)
    (hq : ∀ (x y : V) (H : Hp) (Q : VK), Dom x H → Dom y H → Q (.int (ans x y)) H → t (some x :: some y :: ws) H Q) : Orc P w K mg base where
  f := f
  q := f
  ans := fun _ => ans
  Log := AnsLog f c' pm ctv qn params body scope cl fr ws
  Dom := Dom
  isf := fun {l H} h => ⟨_, _, _, _, h.1⟩
  isq := fun {l H} h => some_nn h.1
  stay := fun {l H H'} s h => ⟨s _ _ h.1 (.inr True.intro), s _ _ h.2.1 (.inr (by unfold CodeO; exact True.intro)), h.2.2.stay s⟩
  dom := dom
  run := by
    refine fnv_lam (ps := ps) (fr := fr) (N := ps ++ fr) (ws := ws) (pm := pm) (ctv := ctv) (c' := c') (q := qn) (params := params) (body := body) (scope := scope) (cl := cl) S hb (fun vs H Q h => ?_) fun A outer s H vs Q hr h => ⟨t, B A outer s _ hr, ?_⟩
    · obtain ⟨x, y, l, rfl, ⟨h1, h2, h3⟩, _⟩ := h
      exact ⟨two.symm, h1, h2, h3⟩
    · obtain ⟨x, y, l, rfl, ⟨h1, h2, h3⟩, hl, dx, dy, hQ⟩ := h
      have kS : TK H (strip cl H) := fun b xs e => by rw [strip_out (h3.out e tup_fz)]; exact e
      have es : NdefX.startF (ps ++ fr) [x, y] ws = some x :: some y :: ws := by
        unfold NdefX.startF
        rw [List.length_append, two, hw]
        simp
      rw [es]
      refine hq x y (strip cl H) _ (dom kS dx) (dom kS dy) fun hf => ?_
      have e : relend cl H (strip cl H) = H := by
        funext b
        by_cases hb : b ∈ cl.map (·.2)
        · exact if_pos hb
        · exact (if_neg hb).trans (strip_out hb)
      rw [e]
      exact hQ H (KB.refl _ _) ⟨h1, h2, h3⟩
theorem Lent.ans {X : Cx} {σ : L2.St} {H1 H2 : Hp} {f c' : Addr} {pm ctv : Value} {qn : Str} {params : Arguments} {body : Expr} {scope : Scope} {fr : List Str} {js : List Nat} {l : Lg} (L : Lent X σ H1 H2)
    (hfree : ∀ y ∈ scope.names, y.2 = .free → X.env.scope.names.lookup y.1 = some .cell ∨ X.env.scope.names.lookup y.1 = some .free) (hfr : ∀ y ∈ fr, (y, NameKind.free) ∈ scope.names) (hjs : js.map (fun j => X.N[j]?) = fr.map some)
    (f1 : H1 f = some (Fz (PySem.W.kla_obj "<lambda>" qn params body scope (cloFrom X.env.cells scope.names []) pm c' ctv))) (c1 : H1 c' = some (CodeO c' qn)) :
    AnsLog f c' pm ctv qn params body scope (cloFrom X.env.cells scope.names []) fr (js.map (NdefX.slotAt σ)) l H2 := ⟨L.keep f1, L.keep c1, L.clos hfree hfr hjs⟩
end
/-! ### a log as data -/
def pd2 (e : (Int × Int) × (Int × Int)) : PyData := .tuple [pd e.1, pd e.2]
def cc2 (c : V → Int × Int) (z : V × V) : (Int × Int) × (Int × Int) := (c z.1, c z.2)
theorem dp_log {K : PySem.W.Frag} {H : Hp} {c : V → Int × Int} : ∀ {ps : List V} {l : Lg}, LogAt H ps l → (∀ z ∈ l, El c z.1 H ∧ El c z.2 H) → DpAll K H ps (l.map fun z => pd2 (cc2 c z))
  | _, _, .nil, _ => .nil
  | _, _, .cons r t, h => by
    obtain ⟨p, rfl, e⟩ := r
    have hz := h _ List.mem_cons_self
    exact .cons (.tup (SqT.of e) (.cons (dp_el hz.1.1) (.cons (dp_el hz.2.1) .nil))) (dp_log t fun z hz => h z (List.mem_cons_of_mem _ hz))
theorem canLay_pd2 (e : (Int × Int) × (Int × Int)) : (pd2 e).canLay0 = true := by
  unfold pd2
  rw [PyData.canLay0, PyData.canLayAll0, PyData.canLayAll0, PyData.canLayAll0, canLay_pd, canLay_pd]
  rfl
theorem depth_pd2 (e : (Int × Int) × (Int × Int)) : (pd2 e).depth ≤ 8 := by
  have h1 := depth_pd e.1
  have h2 := depth_pd e.2
  unfold pd2
  rw [PyData.depth, PyData.depthAll, PyData.depthAll, PyData.depthAll]
  omega
theorem shaped_log {α : Type} (g : α → (Int × Int) × (Int × Int)) (xs : List α) : SeqAt.shaped (.list (xs.map fun x => pd2 (g x))) = true := by
  have a : ∀ xs : List α, PyData.canLayAll0 (xs.map fun x => pd2 (g x)) = true ∧ PyData.depthAll (xs.map fun x => pd2 (g x)) ≤ 8 := by
    intro xs
    induction xs with
    | nil => exact ⟨rfl, by simp [PyData.depthAll]⟩
    | cons x xs ih =>
      have h1 := depth_pd2 (g x)
      rw [List.map_cons, PyData.canLayAll0, PyData.depthAll, ih.1, canLay_pd2]
      refine ⟨rfl, ?_⟩
      have := ih.2
      omega
  refine shaped_of (by rw [PyData.canLay0]; exact (a xs).1) ?_
  rw [PyData.depth]
  have := (a xs).2
  omega
theorem eqv_log {α β : Type} (g : α → (Int × Int) × (Int × Int)) (g' : β → (Int × Int) × (Int × Int)) (xs : List α) (ys : List β) : PyData.eqv (.list (xs.map fun x => pd2 (g x))) (.list (ys.map fun x => pd2 (g' x))) = decide (xs.map g = ys.map g') := by
  have e2 : ∀ a b, PyData.eqv (pd2 a) (pd2 b) = decide (a = b) := fun a b => by
    unfold pd2
    rw [PyData.eqv, PyData.eqvAll, PyData.eqvAll, PyData.eqvAll, eqv_pd, eqv_pd]
    obtain ⟨a1, a2⟩ := a
    obtain ⟨b1, b2⟩ := b
    by_cases h1 : a1 = b1
    · by_cases h2 : a2 = b2
      · simp [h1, h2]
      · simp [h1, h2]
    · simp [h1]
  rw [PyData.eqv]
  induction xs generalizing ys with
  | nil => cases ys with
    | nil => rw [List.map_nil, List.map_nil, List.map_nil, PyData.eqvAll]; simp
    | cons y ys => rw [List.map_nil, List.map_cons, PyData.eqvAll]; simp
  | cons x xs ih => cases ys with
    | nil => rw [List.map_cons, List.map_nil, PyData.eqvAll]; simp
    | cons y ys =>
      rw [List.map_cons, List.map_cons, PyData.eqvAll, e2, ih]
      by_cases h1 : g x = g' y
      · by_cases h2 : xs.map g = ys.map g'
        · simp [h1, h2]
        · simp [h1, h2]
      · simp [h1]
end Ord

namespace Ord
open PySem PySem.Spec PyProof.Rows L2 LamX
/-- what stands from call to call: the order with its log, lists, elements -/
structure Held (q f c' : Addr) (ob : Obj) (qn : Str) (ps : List (Addr × List V)) (es : List V) (c : V → Int × Int) (l : Lg) (H : Hp) : Prop where
  hq : ∃ qs, H q = some (.lst qs) ∧ LogAt H qs l
  hf : H f = some (Fz ob)
  hc : H c' = some (CodeO c' qn)
  ls : ∀ p ∈ ps, H p.1 = some (.lst p.2) ∧ p.1 ≠ q
  el : Els c es H
variable {q f c' : Addr} {ob : Obj} {qn : Str} {ps : List (Addr × List V)} {es : List V} {c : V → Int × Int} {l l' : Lg} {H H' : Hp}
theorem Held.same (h : Held q f c' ob qn ps es c l H) (s : Same H H') : Held q f c' ob qn ps es c l H' := by
  obtain ⟨qs, h1, h2⟩ := h.hq
  exact ⟨⟨qs, s _ _ h1, h2.tk (Same.tk s)⟩, s _ _ h.hf, s _ _ h.hc, fun p hp => ⟨s _ _ (h.ls p hp).1, (h.ls p hp).2⟩, h.el.tk (Same.tk s)⟩
theorem Held.put (h : Held q f c' ob qn ps es c l H) {p : Addr} {zs : List V} (e : H p = some (.lst zs)) (n : p ≠ q) : Held q f c' ob qn ((p, zs) :: ps) es c l H :=
  ⟨h.hq, h.hf, h.hc, fun r hr => by
    rcases List.mem_cons.mp hr with z | z
    · rw [z]; exact ⟨e, n⟩
    · exact h.ls r z, h.el⟩
theorem Held.less {ps' : List (Addr × List V)} (h : Held q f c' ob qn ps es c l H) (s : ∀ p ∈ ps', p ∈ ps) : Held q f c' ob qn ps' es c l H := ⟨h.hq, h.hf, h.hc, fun r hr => h.ls r (s r hr), h.el⟩
theorem Held.nq (h : Held q f c' ob qn ps es c l H) {p : Addr} (n : H p = none) : p ≠ q := fun z => by
  obtain ⟨qs, h1, _⟩ := h.hq
  rw [z, h1] at n
  cases n
theorem Held.wr (h : Held q f c' ob qn ps es c l H) {qs : List V} {l' : Lg} (n : LogAt H qs l') : Held q f c' ob qn ps es c l' (upd H q (.lst qs)) := by
  obtain ⟨q0, h1, _⟩ := h.hq
  have k : TK H (upd H q (.lst qs)) := TK.wr h1 nf_lst
  have fq : f ≠ q := fun z => by
    have e := h.hf
    rw [z, h1] at e
    cases e
  have cq : c' ≠ q := code_ne h1 h.hc
  exact ⟨⟨qs, upd_same, n.tk k⟩, (upd_ne fq).trans h.hf, (upd_ne cq).trans h.hc, fun p hp => ⟨(upd_ne (h.ls p hp).2).trans (h.ls p hp).1, (h.ls p hp).2⟩, h.el.tk k⟩
theorem Held.lent {X : Cx} {σ : L2.St} {H8 H9 H10 : Hp} (h : Held q f c' ob qn ps es c l H8) (L : Lent X σ H8 H9) (kb : KB q H9 H10) (n : ∃ qs, H10 q = some (.lst qs) ∧ LogAt H10 qs l') : Held q f c' ob qn ps es c l' (strip X.env.cells H10) := by
  obtain ⟨q0, h1, _⟩ := h.hq
  obtain ⟨qs, h2, h3⟩ := n
  have nfz := lst_nfz (L.keep h1)
  have kbF := L.kb kb
  have fq : f ≠ q := fun z => by
    have e := h.hf
    rw [z, h1] at e
    cases e
  have cq : c' ≠ q := code_ne h1 h.hc
  exact ⟨⟨qs, L.at3 nfz kb h2 lst_fz, h3.tk (L.tk3 nfz kb)⟩, kbF.keep _ _ fq h.hf, kbF.keep _ _ cq h.hc, fun p hp => ⟨kbF.keep _ _ (h.ls p hp).2 (h.ls p hp).1, (h.ls p hp).2⟩, h.el.tk kbF.tk⟩
theorem Held.at3 {X : Cx} {σ : L2.St} {H8 H9 H10 : Hp} (h : Held q f c' ob qn ps es c l H8) (L : Lent X σ H8 H9) (kb : KB q H9 H10) {p : Addr} {o : HO} (e : H10 p = some o) (n : ∀ ob, o ≠ Fz ob) : strip X.env.cells H10 p = some o := by
  obtain ⟨q0, h1, _⟩ := h.hq
  exact L.at3 (lst_nfz (L.keep h1)) kb e n
theorem Held.all {X : Cx} {σ : L2.St} {H8 H9 : Hp} (h : Held q f c' ob qn ps es c l H8) (L : Lent X σ H8 H9) {xs : List V} (s : ∀ x ∈ xs, x ∈ es) : ∀ x ∈ xs, El c x H9 := fun x hx => (h.el x (s x hx)).tk (Same.tk L.same)
/-- two rows as data -/
theorem shaped_rows2 {α : Type} (g : α → Int × Int) (xs ys : List α) : SeqAt.shaped (.list [.list (xs.map fun x => pd (g x)), .list (ys.map fun x => pd (g x))]) = true := by
  have h1 := depthAll_pd g xs
  have h2 := depthAll_pd g ys
  refine shaped_of (by rw [PyData.canLay0, PyData.canLayAll0, PyData.canLayAll0, PyData.canLayAll0, PyData.canLay0, PyData.canLay0, canLayAll_pd, canLayAll_pd]; rfl) ?_
  rw [PyData.depth, PyData.depthAll, PyData.depthAll, PyData.depthAll, PyData.depth, PyData.depth]
  omega
theorem eqv_rows2 {α : Type} (g : α → Int × Int) (xs ys : List α) : PyData.eqv (.list [.list (xs.map fun x => pd (g x)), .list (ys.map fun x => pd (g x))]) (.list [.list (xs.map fun x => pd (g x)), .list (ys.map fun x => pd (g x))]) = true := by
  rw [PyData.eqv, PyData.eqvAll, PyData.eqvAll, PyData.eqvAll, eqv_row, eqv_row]
  simp
end Ord
namespace Ord
open PySem PySem.Spec PyProof.Rows L2 LamX
/-- the object and its name, as letters -/
theorem held_ex {q f c' : Addr} {ob : Obj} {qn : Str} {ps : List (Addr × List V)} {es : List V} {c : V → Int × Int} {l : Lg} {H : Hp} (h : Held q f c' ob qn ps es c l H) : ∃ ob' qn', ob' = ob ∧ qn' = qn ∧ Held q f c' ob' qn' ps es c l H := ⟨_, _, rfl, rfl, h⟩
end Ord

/-! a list that nobody writes: known for good; orders that look at it and make things of their own -/
namespace Ord
open PySem PySem.Spec PyProof.Rows L2 LamX
/-- the list at a stands for good -/
def SqF (K : PySem.W.Frag) (H : Hp) (a : Addr) (xs : List V) : Prop := (∃ o, H a = some (.frz o (.lst xs))) ∨ ∀ H', SqL K H' a xs
/-- what is locked as a list stands -/
def EK (H H' : Hp) : Prop := ∀ b u xs, H b = some (.frz u (.lst xs)) → H' b = some (.frz u (.lst xs))
theorem EK.same {H H' : Hp} (s : Same H H') : EK H H' := fun b u xs e => s _ _ e
theorem EK.trans {H H1 H2 : Hp} (a : EK H H1) (b : EK H1 H2) : EK H H2 := fun c u xs e => b c u xs (a c u xs e)
theorem EK.stay {q : Addr} {H H' : Hp} (s : Stay q H H') : EK H H' := fun b u xs e => s _ _ e (.inr True.intro)
theorem EK.kb {q : Addr} {H H' : Hp} (k : KB q H H') (hq : ∀ u xs, H q ≠ some (.frz u (.lst xs))) : EK H H' := fun b u xs e => k.keep _ _ (fun z => hq u xs (by rw [← z]; exact e)) e
theorem EK.wr {H : Hp} {q : Addr} {o u : HO} (e : H q = some u) (n : ∀ w xs, u ≠ .frz w (.lst xs)) : EK H (upd H q o) := fun b w xs h => by
  rw [upd_ne (fun z => by
    rw [z, e] at h
    exact n w xs (Option.some.inj h))]
  exact h
theorem EK.strip {cl : List (Str × Addr)} {H : Hp} (h : ∀ b ∈ cl.map (·.2), ∃ ob, H b = some (Fz ob)) : EK H (strip cl H) := fun b u xs e => by
  rw [strip_out (fun hb => by
    obtain ⟨ob, e'⟩ := h b hb
    rw [e] at e'
    cases e')]
  exact e
theorem lst_nfl {q : Addr} {H : Hp} {ys : List V} (e : H q = some (.lst ys)) (u : Obj) (xs : List V) : H q ≠ some (.frz u (.lst xs)) := fun z => by
  rw [e] at z
  cases z
theorem SqF.ek {K : PySem.W.Frag} {H H' : Hp} {a : Addr} {xs : List V} (h : SqF K H a xs) (k : EK H H') : SqF K H' a xs := h.elim (fun ⟨o, e⟩ => .inl ⟨o, k _ _ _ e⟩) .inr
theorem SqF.sq {K : PySem.W.Frag} {H : Hp} {a : Addr} {xs : List V} (h : SqF K H a xs) : SqL K H a xs := h.elim (fun ⟨o, e⟩ => .inl (.inr ⟨o, e⟩)) fun h => h H
theorem SqF.ext {K : PySem.W.Frag} {H H' : Hp} {a : Addr} {xs : List V} (h : SqF K H a xs) (e : ExtN H H') : SqF K H' a xs := h.ek fun b u ys q => e _ _ q fun ps z => by cases z
/-- a def that is shown for locked lists is shown for all -/
theorem fn_frz {P : Program} {w : World} {K : PySem.W.Frag} {mg : Str → Option Value} {base : Heap} {k : Nat} {f : Addr} {fd : FuncData} {ps : List Str} {sp sp' : Sp} (F : FnOk P w K mg base CX0 k f fd ps sp') (len : ∀ vs H Q E, sp vs H Q E → vs.length = ps.length)
    (h : ∀ vs H Q E, sp vs H Q E → sp' vs H Q E ∨ ∃ (a : Addr) (xs : List V), H a = some (.lst xs) ∧ ∀ o, sp' vs (upd H a (.frz o (.lst xs))) Q E) : FnOk P w K mg base CX0 k f fd ps sp := by
  refine ⟨len, fun A outer s H args us vs Q E hr e0 hb r hs => ?_⟩
  rcases h vs H Q E hs with h | ⟨a, xs, ha, h⟩
  · exact F.run A outer s H args us vs Q E hr e0 hb r h
  · obtain ⟨zl, its, n, rv, hl⟩ := e0.hok a _ ha
    obtain ⟨H2, e2⟩ : ∃ H2, H2 = upd H a (.frz { cls := .type "list", data := .seq its.toArray n } (.lst xs)) := ⟨_, rfl⟩
    have hn : ∀ b, H b = none → H2 b = none := fun b e => by
      rw [e2, upd_ne (fun z => by
        rw [z, ha] at e
        cases e)]
      exact e
    have hk : ∀ b o, H b = some o → o ≠ .lst xs → H2 b = some o := fun b o e no => by
      rw [e2, upd_ne (fun z => by
        rw [z, ha] at e
        exact no (Option.some.inj e).symm)]
      exact e
    have hok2 : HOk P w H2 s.heap := fun b y e => by
      by_cases hb : b = a
      · rw [hb, e2, upd_same] at e
        cases e
        rw [hb]
        exact ⟨hl, zl, its, n, rv, hl⟩
      · rw [e2, upd_ne hb] at e
        exact (e0.hok b y e).stay (fun _ _ _ q => q) (fun c q => hk c _ q fun z => by cases z) fun c xs q => hk c _ q fun z => by cases z
    have g := F.run A outer s H2 args us vs Q E hr ⟨e0.frames, e0.mod, fun b o e => ⟨(e0.bs b o e).1, hn _ (e0.bs b o e).2⟩, e0.bsz, e0.funs, fun b hb => hn _ (e0.frf b hb), hok2, e0.bare⟩ hb r (by rw [e2]; exact h _)
    refine codeAny_mono g fun r s' hq => ?_
    cases r with
    | error e => exact False.elim hq
    | ok fl =>
      cases fl with
      | ret u =>
        obtain ⟨v, H', os, bare, U, hok, rv, q⟩ := hq
        exact ⟨v, H', os, bare, ⟨fun b o e n => U.keep b o e (hn b n), fun b o e n => U.slot b o e (hn b n), fun b o e n => U.free b o e (hn b n), U.there, fun b xs e => U.tups b xs (hk b _ e fun z => by cases z), fun b o y e => U.frzs b o y (hk b _ e fun z => by cases z), fun b ps e => U.tbls b ps (hk b _ e fun z => by cases z)⟩, hok, rv, q⟩
      | next => exact False.elim hq
      | brk => exact False.elim hq
      | cont => exact False.elim hq
/-- the end of a lambda's call that writes a question down and makes things of its own -/
theorem relend_ask2 {cl : List (Str × Addr)} {fr : List Str} {ws : List (Option V)} {H H3 : Hp} {q t : Addr} {x y : V} {ps : List V} (C : ClosAt cl fr ws H) (hq : H q = some (.lst ps)) (ht : strip cl H t = none)
    (s3 : Same (upd (upd (strip cl H) t (.tup [x, y])) q (.lst (ps ++ [.ref t]))) H3) (hf : ∀ b, b ∈ cl.map (·.2) → H3 b = Option.none) :
    KB q H (relend cl H H3) ∧ relend cl H H3 q = some (.lst (ps ++ [.ref t])) ∧ relend cl H H3 t = some (.tup [x, y]) ∧ H t = Option.none := by
  have qc : q ∉ cl.map (·.2) := C.out hq lst_fz
  have hqs : strip cl H q = some (.lst ps) := by rw [strip_out qc]; exact hq
  have qt : q ≠ t := ne_of_none hqs ht
  have e3 : H3 t = some (.tup [x, y]) := s3 _ _ (by rw [upd_ne qt.symm, upd_same])
  have tc : t ∉ cl.map (·.2) := fun z => by
    have e := hf t z
    rw [e3] at e
    cases e
  have ht' : H t = none := by rw [strip_out tc] at ht; exact ht
  have inR : ∀ b, b ∈ cl.map (·.2) → relend cl H H3 b = H b := fun b hb => if_pos hb
  have outR : ∀ b, b ∉ cl.map (·.2) → relend cl H H3 b = H3 b := fun b hb => if_neg hb
  have keep : ∀ b o, b ≠ q → H b = some o → relend cl H H3 b = some o := fun b o hb e => by
    by_cases hc : b ∈ cl.map (·.2)
    · rw [inR b hc]
      exact e
    · rw [outR b hc]
      refine s3 _ _ ?_
      rw [upd_ne hb, upd_ne (ne_of_none e ht'), strip_out hc]
      exact e
  refine ⟨⟨keep, fun b xs e => keep b _ (fun z => by
    rw [z, hq] at e
    cases e) e⟩, by rw [outR q qc]; exact s3 _ _ upd_same, by rw [outR t tc]; exact e3, ht'⟩
section
variable {P : Program} {w : World} {K : PySem.W.Frag} {mg : Str → Option Value} {base : Heap}
/-- an order that looks at what is locked (Ex) and writes its questions down; read off the heap -/
def orcX {H1 : Hp} {f q c' : Addr} {pm ctv : Value} {qn : Str} {params : Arguments} {body : Expr} {scope : Scope} {cl : List (Str × Addr)} (_f1 : H1 f = some (Fz (PySem.W.kla_obj "<lambda>" qn params body scope cl pm c' ctv)))
    (ps fr : List Str) (ws : List (Option V)) (ans : Lg → V → V → Int) (Dom : V → Hp → Prop) (Ex : Hp → Prop) {t : TE}
    (S : NdefX.NScope (ps ++ fr) ps fr scope) (two : ps.length = 2) (hw : ws.length = fr.length)
    (hb : ∀ us : List Value, us.length = ps.length → bindArgs (PySem.W.kla_fn "<lambda>" qn params body scope cl pm (.ref c') ctv) ⟨us, []⟩ = pure (ps.zip us))
    (dom : ∀ {x : V} {H H' : Hp}, TK H H' → Dom x H → Dom x H') (exk : ∀ {H H' : Hp}, EK H H' → Ex H → Ex H')
    (B : ∀ (A : Around) (outer : List Env) (s : Shared) (H0 : Hp), Room 2 (A.deeper (NdefX.envF (lamNF qn params scope cl c') f s.heap.objs.size)) → PE (NdefX.ncx CX0 P w K mg base (ps ++ fr) (lamNF qn params scope cl c') f A outer s H0 E0).nox body t)
    (hq : ∀ (x y : V) (l : Lg) (qs : List V) (H : Hp) (Q : VK), H q = some (.lst qs) → LogAt H qs l → l.length < 100000 → Ex H → Dom x H → Dom y H →
      (∀ a H', H a = none → Same (upd (upd H a (.tup [x, y])) q (.lst (qs ++ [.ref a]))) H' → Q (.int (ans l x y)) H') → t (some x :: some y :: ws) H Q) : Orc P w K mg base where
  f := f
  q := q
  ans := ans
  Log := fun l H => AskLog f q c' pm ctv qn params body scope cl fr ws l H ∧ Ex H
  Dom := Dom
  isf := fun {l H} h => ⟨_, _, _, _, h.1.1⟩
  isq := fun {l H} h z => by
    obtain ⟨⟨_, _, _, qs, e, _⟩, _⟩ := h
    rw [z] at e
    cases e
  stay := fun {l H H'} s h => by
    obtain ⟨⟨h1, h2, h3, qs, h4, h5⟩, h6⟩ := h
    exact ⟨⟨s _ _ h1 (.inr True.intro), s _ _ h2 (.inr (by unfold CodeO; exact True.intro)), h3.stay s, qs, s _ _ h4 (.inl rfl), h5.tk s.tk⟩, exk (EK.stay s) h6⟩
  dom := dom
  run := by
    refine fnv_lam (ps := ps) (fr := fr) (N := ps ++ fr) (ws := ws) (pm := pm) (ctv := ctv) (c' := c') (q := qn) (params := params) (body := body) (scope := scope) (cl := cl) S hb (fun vs H Q h => ?_) fun A outer s H vs Q hr h => ⟨t, B A outer s _ hr, ?_⟩
    · obtain ⟨x, y, l, rfl, ⟨⟨h1, h2, h3, _⟩, _⟩, _⟩ := h
      exact ⟨two.symm, h1, h2, h3⟩
    · obtain ⟨x, y, l, rfl, ⟨⟨h1, h2, h3, qs, h4, h5⟩, h6⟩, hl, dx, dy, hQ⟩ := h
      have qc := h3.out h4 lst_fz
      have hqs : strip cl H q = some (.lst qs) := by rw [strip_out qc]; exact h4
      have kS : TK H (strip cl H) := fun b xs e => by rw [strip_out (h3.out e tup_fz)]; exact e
      have kE : EK H (strip cl H) := EK.strip fun b hb => by
        obtain ⟨ob, v, e, _⟩ := h3.all b hb
        exact ⟨ob, e⟩
      have es : NdefX.startF (ps ++ fr) [x, y] ws = some x :: some y :: ws := by
        unfold NdefX.startF
        rw [List.length_append, two, hw]
        simp
      rw [es]
      refine hq x y l qs (strip cl H) _ hqs (h5.tk kS) hl (exk kE h6) (dom kS dx) (dom kS dy) fun a H3 ha s3 hf => ?_
      obtain ⟨kb, e1, e2, e3⟩ := relend_ask2 h3 h4 ha s3 hf
      have fq : f ≠ q := fun z => by
        rw [z, h4] at h1
        cases h1
      have cq : c' ≠ q := fun z => by
        rw [z, h4] at h2
        exact absurd (Option.some.inj h2).symm (by unfold CodeO; intro y; cases y)
      have cl3 : ClosAt cl fr ws (relend cl H H3) := by
        refine ⟨h3.len, fun b hb => ?_, h3.inj, fun i y e => ?_⟩
        · obtain ⟨o, v, e, r⟩ := h3.all b hb
          exact ⟨o, v, by rw [show relend cl H _ b = H b from if_pos hb]; exact e, r⟩
        · obtain ⟨c, hc, hv⟩ := h3.has i y e
          refine ⟨c, hc, fun v ev => ?_⟩
          obtain ⟨o, u, e4, r⟩ := hv v ev
          exact ⟨o, u, by rw [show relend cl H _ c = H c from if_pos (lookup_mem2 hc)]; exact e4, r⟩
      exact hQ _ kb ⟨⟨kb.keep _ _ fq h1, kb.keep _ _ cq h2, cl3, _, e1, (h5.tk kb.tk).snoc e2⟩, exk (EK.kb kb (lst_nfl h4)) h6⟩
end
end Ord
namespace Ord
open PySem PySem.Spec PyProof.Rows L2 LamX
/-! what stands from call to call, and the script -/
def HeldS (K : PySem.W.Frag) (sc : Addr) (ns : List V) (q f c' : Addr) (ob : Obj) (qn : Str) (ps : List (Addr × List V)) (es : List V) (c : V → Int × Int) (l : Lg) (H : Hp) : Prop := Held q f c' ob qn ps es c l H ∧ SqF K H sc ns
section
variable {K : PySem.W.Frag} {sc : Addr} {ns : List V} {q f c' : Addr} {ob : Obj} {qn : Str} {ps : List (Addr × List V)} {es : List V} {c : V → Int × Int} {l l' : Lg} {H H' : Hp}
theorem HeldS.same (h : HeldS K sc ns q f c' ob qn ps es c l H) (s : Same H H') : HeldS K sc ns q f c' ob qn ps es c l H' := ⟨h.1.same s, h.2.ek (EK.same s)⟩
theorem HeldS.put (h : HeldS K sc ns q f c' ob qn ps es c l H) {p : Addr} {zs : List V} (e : H p = some (.lst zs)) (n : p ≠ q) : HeldS K sc ns q f c' ob qn ((p, zs) :: ps) es c l H := ⟨h.1.put e n, h.2⟩
theorem HeldS.wr (h : HeldS K sc ns q f c' ob qn ps es c l H) {qs : List V} {l' : Lg} (n : LogAt H qs l') : HeldS K sc ns q f c' ob qn ps es c l' (upd H q (.lst qs)) := by
  obtain ⟨q0, h1, _⟩ := h.1.hq
  exact ⟨h.1.wr n, h.2.ek (EK.wr h1 fun w xs z => by cases z)⟩
theorem HeldS.lent {X : Cx} {σ : L2.St} {H8 H9 H10 : Hp} (h : HeldS K sc ns q f c' ob qn ps es c l H8) (L : Lent X σ H8 H9) (kb : KB q H9 H10) (n : ∃ qs, H10 q = some (.lst qs) ∧ LogAt H10 qs l') : HeldS K sc ns q f c' ob qn ps es c l' (strip X.env.cells H10) := by
  obtain ⟨q0, h1, _⟩ := h.1.hq
  exact ⟨h.1.lent L kb n, ((h.2.ek (EK.same L.same)).ek (EK.kb kb (lst_nfl (L.keep h1)))).ek (EK.strip fun b hb => L.fzK (lst_nfz (L.keep h1)) kb hb)⟩
theorem HeldS.less {ps' : List (Addr × List V)} (h : HeldS K sc ns q f c' ob qn ps es c l H) (s : ∀ p ∈ ps', p ∈ ps) : HeldS K sc ns q f c' ob qn ps' es c l H := ⟨h.1.less s, h.2⟩
theorem heldS_ex (h : HeldS K sc ns q f c' ob qn ps es c l H) : ∃ ob' qn', ob' = ob ∧ qn' = qn ∧ HeldS K sc ns q f c' ob' qn' ps es c l H := ⟨_, _, rfl, rfl, h⟩
end
end Ord
namespace Ord
open PySem PySem.Spec PyProof.Rows L2 LamX
theorem AskLog.clr {f q c' : Addr} {pm ctv : Value} {qn : Str} {params : Arguments} {body : Expr} {scope : Scope} {cl : List (Str × Addr)} {fr : List Str} {ws : List (Option V)} {l : Lg} {H : Hp} (h : AskLog f q c' pm ctv qn params body scope cl fr ws l H) :
    ∃ qs, H q = some (.lst qs) ∧ LogAt H qs l ∧ AskLog f q c' pm ctv qn params body scope cl fr ws [] (upd H q (.lst [])) := by
  obtain ⟨h1, h2, h3, qs, h4, h5⟩ := h
  have fq : f ≠ q := fun z => by
    rw [z, h4] at h1
    cases h1
  have cq : c' ≠ q := code_ne h4 h2
  refine ⟨qs, h4, h5, (upd_ne fq).trans h1, (upd_ne cq).trans h2, ⟨h3.len, fun b hb => ?_, h3.inj, fun i y e => ?_⟩, [], upd_same, .nil⟩
  · obtain ⟨ob, v, e, r⟩ := h3.all b hb
    exact ⟨ob, v, (upd_ne fun z => lst_nfz h4 ob (by rw [← z]; exact e)).trans e, r⟩
  · obtain ⟨cl, hc1, hv⟩ := h3.has i y e
    refine ⟨cl, hc1, fun v ev => ?_⟩
    obtain ⟨ob, u, e, r⟩ := hv v ev
    exact ⟨ob, u, (upd_ne fun z => lst_nfz h4 ob (by rw [← z]; exact e)).trans e, r⟩
end Ord
namespace Ord
open PySem PySem.Spec PyProof.Rows L2 LamX
section
variable {P : Program} {w : World} {K : PySem.W.Frag} {mg : Str → Option Value} {base : Heap}
/-- the log may be cleared -/
def Orc.Clr (O : Orc P w K mg base) : Prop := ∀ l H, O.Log l H → ∃ qs, H O.q = some (.lst qs) ∧ LogAt H qs l ∧ O.Log [] (upd H O.q (.lst []))
/-- all pairs may be asked of -/
def Orc.DomE (O : Orc P w K mg base) : Prop := ∀ x H, El (cnt H) x H → O.Dom x H
theorem KB.wrq {q : Addr} {H : Hp} {ys zs : List V} (e : H q = some (.lst ys)) : KB q H (upd H q (.lst zs)) :=
  ⟨fun b o n h => by rw [upd_ne n]; exact h, TK.wr e nf_lst⟩
end
end Ord

set_option pp.deepTerms false
set_option pp.maxSteps 1500
namespace Ord
open PySem PySem.Spec PyProof.Rows L2 LamX
open Mir (Tr)
theorem ins_fz {C dx : Addr} {fs : List (Str × V)} (ob : Obj) : HO.ins C dx fs ≠ Fz ob := fun z => by cases z
theorem TreeAt.mono {CN q : Addr} {H H' : Hp} (k : ∀ b dx x h l r i j, b ≠ q → H b = some (.ins CN dx (nfl x h l r i j)) → H' b = some (.ins CN dx (nfl x h l r i j))) : ∀ {t : Tr V} {v : V}, TreeAt CN q H v t → TreeAt CN q H' v t
  | .lf, v, h => h
  | .nd _ _ l r, v, h => by
    obtain ⟨a, dx, lv, rv, e1, e2, e3, e4, e5⟩ := h
    exact ⟨a, dx, lv, rv, e1, e2, k _ _ _ _ _ _ _ _ e2 e3, e4.mono k, e5.mono k⟩
section
variable {X : Cx} {σ : L2.St} {H1 H2 H3 : Hp} {q m : Addr}
theorem Lent.kb2 (L : Lent X σ H1 H2) (k : KB2 q m H2 H3) : KB2 q m H1 (strip X.env.cells H3) := by
  have nc : ∀ b o, H1 b = some o → b ∉ X.env.cells.map (·.2) := fun b o e hb => by
    rw [L.none_ b hb] at e
    cases e
  exact ⟨fun b o n n2 e => by rw [strip_out (nc b o e)]; exact k.keep b o n n2 (L.keep e), fun b xs e => by rw [strip_out (nc b _ e)]; exact k.tk b xs (L.keep e)⟩
theorem Lent.fz2 (L : Lent X σ H1 H2) (hq : H1 q ≠ none) (hm : H1 m ≠ none) (k : KB2 q m H2 H3) {b : Addr} (hb : b ∈ X.env.cells.map (·.2)) : ∃ o, H3 b = some (Fz o) := by
  obtain ⟨o, v, e, _⟩ := L.fz b hb
  exact ⟨o, k.keep b _ (fun z => hq (by rw [← z]; exact L.none_ b hb)) (fun z => hm (by rw [← z]; exact L.none_ b hb)) e⟩
theorem Lent.at2 (L : Lent X σ H1 H2) (hq : H1 q ≠ none) (hm : H1 m ≠ none) (k : KB2 q m H2 H3) {b : Addr} {o : HO} (e : H3 b = some o) (n : ∀ ob, o ≠ Fz ob) : strip X.env.cells H3 b = some o := by
  have hb : b ∉ X.env.cells.map (·.2) := fun hb => by
    obtain ⟨ob, e'⟩ := L.fz2 hq hm k hb
    rw [e] at e'
    exact n ob (Option.some.inj e')
  rw [strip_out hb]
  exact e
theorem Lent.tree2 {CN : Addr} {t : Tr V} {v : V} (L : Lent X σ H1 H2) (hq : H1 q ≠ none) (hm : H1 m ≠ none) (k : KB2 q m H2 H3) (h : TreeAt CN q H3 v t) : TreeAt CN q (strip X.env.cells H3) v t :=
  h.mono fun b _ _ _ _ _ _ _ _ e => L.at2 hq hm k e ins_fz
theorem EK.kb2 {H H' : Hp} (k : KB2 q m H H') (hq : ∀ u xs, H q ≠ some (.frz u (.lst xs))) (hm : ∀ u xs, H m ≠ some (.frz u (.lst xs))) : EK H H' := fun b u xs e => k.keep _ _ (fun z => hq u xs (by rw [← z]; exact e)) (fun z => hm u xs (by rw [← z]; exact e)) e
end
/-- a map stands at m: its tree is even, its keys are pairs, its values numbers -/
structure MapH (CM CN q f : Addr) (H : Hp) (m : Addr) (t : Tr V) : Prop where
  ob : ∃ dx v, H m = some (.ins CM dx (mfl f v)) ∧ TreeAt CN q H v t
  mq : m ≠ q
  bal : Mir.Bal t
  el : ∀ z ∈ Mir.toL t, El (Ord.cnt H) z.1 H ∧ ∃ i, z.2 = V.int i
section
variable {CM CN q f m : Addr} {H H' : Hp} {t : Tr V}
theorem el_tk {H H' : Hp} {t : Tr V} (h : ∀ z ∈ Mir.toL t, El (Ord.cnt H) z.1 H ∧ ∃ i, z.2 = V.int i) (k : TK H H') : ∀ z ∈ Mir.toL t, El (Ord.cnt H') z.1 H' ∧ ∃ i, z.2 = V.int i := fun z hz => ⟨((h z hz).1.tk k).now, (h z hz).2⟩
theorem MapH.same (h : MapH CM CN q f H m t) (s : Same H H') : MapH CM CN q f H' m t := by
  obtain ⟨dx, v, h1, h2⟩ := h.ob
  exact ⟨⟨dx, v, s _ _ h1, h2.same s⟩, h.mq, h.bal, el_tk h.el (Same.tk s)⟩
theorem MapH.nn (h : MapH CM CN q f H m t) : H m ≠ none := by
  obtain ⟨dx, v, h1, _⟩ := h.ob
  exact some_nn h1
/-- a list is written -/
theorem MapH.wr (h : MapH CM CN q f H m t) {p : Addr} {xs ys : List V} (e : H p = some (.lst xs)) : MapH CM CN q f (upd H p (.lst ys)) m t := by
  obtain ⟨dx, v, h1, h2⟩ := h.ob
  refine ⟨⟨dx, v, ?_, h2.mono fun b _ _ _ _ _ _ _ _ eb => ?_⟩, h.mq, h.bal, el_tk h.el (TK.wr e nf_lst)⟩
  · rw [upd_ne (fun z => by rw [z, e] at h1; cases h1)]
    exact h1
  · rw [upd_ne (fun z => by rw [z, e] at eb; cases eb)]
    exact eb
/-- another map is written -/
theorem MapH.kb2 (h : MapH CM CN q f H m t) {m2 dx2 : Addr} {v2 : V} (e : H m2 = some (.ins CM dx2 (mfl f v2))) (n : m ≠ m2) (k : KB2 q m2 H H') : MapH CM CN q f H' m t := by
  obtain ⟨dx, v, h1, h2⟩ := h.ob
  exact ⟨⟨dx, v, k.keep _ _ h.mq n h1, h2.mono fun b _ _ _ _ _ _ _ nb eb => k.keep _ _ nb (fun z => nf_map e _ _ _ _ _ _ _ (by rw [← z]; exact eb)) eb⟩, h.mq, h.bal, el_tk h.el k.tk⟩
theorem MapH.put {dx : Addr} {v' key held : V} {l : Lg} {ans : Mir.AnsT V} (h : MapH CM CN q f H m t) (k : KB2 q m H H') (hm : H' m = some (.ins CM dx (mfl f v'))) (t' : TreeAt CN q H' v' (Mir.wk ans t key held l).1) (ek : El (Ord.cnt H) key H) (eh : ∃ i, held = V.int i) :
    MapH CM CN q f H' m (Mir.wk ans t key held l).1 := by
  refine ⟨⟨dx, v', hm, t'⟩, h.mq, (Mir.wk_bal ans key held t l h.bal).1, fun z hz => ?_⟩
  have h0 := el_tk h.el k.tk
  rcases Mir.wk_mem ans key held t l z hz with q | ⟨q1, q2⟩
  · exact h0 z q
  · refine ⟨?_, by rw [q1]; exact eh⟩
    rcases q2 with q2 | ⟨g, q2⟩
    · rw [q2]
      exact (ek.tk k.tk).now
    · exact (h0 _ q2).1
theorem MapH.drop {dx : Addr} {v' key : V} {l : Lg} {ans : Mir.AnsT V} (h : MapH CM CN q f H m t) (k : KB2 q m H H') (hm : H' m = some (.ins CM dx (mfl f v'))) (t' : TreeAt CN q H' v' (Mir.wo ans t key l).1) :
    MapH CM CN q f H' m (Mir.wo ans t key l).1 :=
  ⟨⟨dx, v', hm, t'⟩, h.mq, (Mir.wo_bal ans key t l h.bal).1, fun z hz => el_tk h.el k.tk z (Mir.wo_mem ans key t l z hz)⟩
end
/-- behind a lent call that writes the log and the map at m -/
theorem Held.lent2 {X : Cx} {σ : L2.St} {H8 H9 H10 : Hp} {q f c' m CM dx : Addr} {ob : Obj} {qn : Str} {ps : List (Addr × List V)} {es : List V} {c : V → Int × Int} {l l' : Lg} {fs : List (Str × V)} (h : Held q f c' ob qn ps es c l H8) (hm : H8 m = some (.ins CM dx fs)) (L : Lent X σ H8 H9) (kb : KB2 q m H9 H10) (n : ∃ qs, H10 q = some (.lst qs) ∧ LogAt H10 qs l') : Held q f c' ob qn ps es c l' (strip X.env.cells H10) := by
  obtain ⟨q0, h1, _⟩ := h.hq
  obtain ⟨qs, h2, h3⟩ := n
  have kbF := L.kb2 kb
  have at2 := fun {b : Addr} {o : HO} => L.at2 (b := b) (o := o) (some_nn h1) (some_nn hm) kb
  have fq : f ≠ q := fun z => by
    have e := h.hf
    rw [z, h1] at e
    cases e
  have fm : f ≠ m := fun z => by
    have e := h.hf
    rw [z, hm] at e
    cases e
  have cq : c' ≠ q := code_ne h1 h.hc
  have cm : c' ≠ m := fun z => by
    have e := h.hc
    rw [z, hm] at e
    exact absurd (Option.some.inj e).symm (by unfold CodeO; intro y; cases y)
  exact ⟨⟨qs, at2 h2 lst_fz, h3.tk fun b xs e => at2 e tup_fz⟩, kbF.keep _ _ fq fm h.hf, kbF.keep _ _ cq cm h.hc, fun p hp => ⟨kbF.keep _ _ (h.ls p hp).2 (fun z => by
    have e := (h.ls p hp).1
    rw [z, hm] at e
    cases e) (h.ls p hp).1, (h.ls p hp).2⟩, h.el.tk kbF.tk⟩
theorem ins_nfl {H : Hp} {m C dx : Addr} {fs : List (Str × V)} (e : H m = some (.ins C dx fs)) (u : Obj) (xs : List V) : H m ≠ some (.frz u (.lst xs)) := fun z => by
  rw [e] at z
  cases z
theorem HeldS.lent2 {X : Cx} {σ : L2.St} {H8 H9 H10 : Hp} {K : PySem.W.Frag} {sc : Addr} {ns : List V} {q f c' m CM dx : Addr} {ob : Obj} {qn : Str} {ps : List (Addr × List V)} {es : List V} {c : V → Int × Int} {l l' : Lg} {fs : List (Str × V)} (h : HeldS K sc ns q f c' ob qn ps es c l H8) (hm : H8 m = some (.ins CM dx fs)) (L : Lent X σ H8 H9) (kb : KB2 q m H9 H10) (n : ∃ qs, H10 q = some (.lst qs) ∧ LogAt H10 qs l') : HeldS K sc ns q f c' ob qn ps es c l' (strip X.env.cells H10) := by
  obtain ⟨q0, h1, _⟩ := h.1.hq
  exact ⟨h.1.lent2 hm L kb n, h.2.ek (EK.kb2 (L.kb2 kb) (lst_nfl h1) (ins_nfl hm))⟩
/-! ### pairs as data -/
def hvI : V → Int
  | .int i => i
  | _ => 0
def pdm (c : V → Int × Int) (z : V × V) : PyData := .tuple [pd (c z.1), .int (hvI z.2)]
theorem dp_pairs {K : PySem.W.Frag} {H : Hp} {c : V → Int × Int} : ∀ {ps : List V} {L : Lg}, LogAt H ps L → (∀ z ∈ L, El c z.1 H ∧ ∃ i, z.2 = V.int i) → DpAll K H ps (L.map (pdm c))
  | _, _, .nil, _ => .nil
  | _, _, .cons (b := y) r t, h => by
    obtain ⟨p, rfl, e⟩ := r
    have hz := h _ List.mem_cons_self
    obtain ⟨h1, i, h2⟩ := hz
    rw [h2] at e
    have d : Dp K H (.ref p) (.tuple [pd (c y.1), .int i]) := .tup (SqT.of e) (.cons (dp_el h1.1) (.cons (.int i) .nil))
    have e2 : pdm c y = .tuple [pd (c y.1), .int i] := by unfold pdm; rw [h2]; rfl
    rw [List.map_cons, e2]
    exact .cons d (dp_pairs t fun z hz => h z (List.mem_cons_of_mem _ hz))
theorem canLay_pdm (c : V → Int × Int) (z : V × V) : (pdm c z).canLay0 = true := by
  unfold pdm
  rw [PyData.canLay0, PyData.canLayAll0, PyData.canLayAll0, PyData.canLayAll0, canLay_pd]
  rfl
theorem depth_pdm (c : V → Int × Int) (z : V × V) : (pdm c z).depth ≤ 8 := by
  have h1 := depth_pd (c z.1)
  unfold pdm
  rw [PyData.depth, PyData.depthAll, PyData.depthAll, PyData.depthAll]
  simp only [PyData.depth]
  omega
theorem lay_pdms (c : V → Int × Int) : ∀ L : Lg, PyData.canLayAll0 (L.map (pdm c)) = true ∧ PyData.depthAll (L.map (pdm c)) ≤ 8
  | [] => ⟨rfl, by simp [PyData.depthAll]⟩
  | z :: L => by
    have h1 := depth_pdm c z
    have h2 := lay_pdms c L
    rw [List.map_cons, PyData.canLayAll0, PyData.depthAll, h2.1, canLay_pdm]
    exact ⟨rfl, by omega⟩
theorem shaped_pdms (c : V → Int × Int) (L : Lg) : SeqAt.shaped (.list (L.map (pdm c))) = true := by
  have h := lay_pdms c L
  refine shaped_of (by rw [PyData.canLay0]; exact h.1) ?_
  rw [PyData.depth]
  omega
theorem shaped_rows3 (c : V → Int × Int) (L1 L2 L3 : Lg) : SeqAt.shaped (.list [.list (L1.map (pdm c)), .list (L2.map (pdm c)), .list (L3.map (pdm c))]) = true := by
  have h1 := lay_pdms c L1
  have h2 := lay_pdms c L2
  have h3 := lay_pdms c L3
  refine shaped_of ?_ ?_
  · simp only [PyData.canLay0, PyData.canLayAll0, h1.1, h2.1, h3.1]
    rfl
  · simp only [PyData.depth, PyData.depthAll]
    omega
end Ord

/-! a tree whose keys rise, by an order -/
namespace Mir
variable {α : Type}
def Lo (κ : α → Int) (key : α) (A : List (α × α)) : Prop := ∀ z ∈ A, κ z.1 < κ key
def Hi (κ : α → Int) (key : α) (B : List (α × α)) : Prop := ∀ z ∈ B, κ key < κ z.1
def SSt (κ : α → Int) (L : List (α × α)) : Prop := L.Pairwise fun a b => κ a.1 < κ b.1
theorem SSt.app {κ : α → Int} {A B : List (α × α)} (h : SSt κ (A ++ B)) : SSt κ A ∧ SSt κ B ∧ ∀ a ∈ A, ∀ b ∈ B, κ a.1 < κ b.1 := List.pairwise_append.mp h
theorem SSt.mid {κ : α → Int} {A B : List (α × α)} {x : α × α} (h : SSt κ (A ++ x :: B)) : SSt κ A ∧ SSt κ B ∧ (∀ a ∈ A, κ a.1 < κ x.1) ∧ (∀ b ∈ B, κ x.1 < κ b.1) ∧ ∀ a ∈ A, ∀ b ∈ B, κ a.1 < κ b.1 := by
  obtain ⟨h1, h2, h3⟩ := h.app
  have h4 := List.pairwise_cons.mp h2
  exact ⟨h1, h4.2, fun a ha => h3 a ha x List.mem_cons_self, h4.1, fun a ha b hb => h3 a ha b (List.mem_cons_of_mem _ hb)⟩
theorem SSt.ins {κ : α → Int} {A B : List (α × α)} {key held : α} (h : SSt κ (A ++ B)) (l : Lo κ key A) (r : Hi κ key B) : SSt κ (A ++ (key, held) :: B) := by
  obtain ⟨h1, h2, h3⟩ := h.app
  refine List.pairwise_append.mpr ⟨h1, List.pairwise_cons.mpr ⟨fun b hb => r b hb, h2⟩, fun a ha b hb => ?_⟩
  rcases List.mem_cons.mp hb with e | e
  · rw [e]
    exact l a ha
  · exact h3 a ha b e
theorem SSt.put {κ : α → Int} {A B : List (α × α)} {k h held : α} (s : SSt κ (A ++ (k, h) :: B)) : SSt κ (A ++ (k, held) :: B) := by
  obtain ⟨h1, h2, h3, h4, h5⟩ := s.mid
  refine List.pairwise_append.mpr ⟨h1, List.pairwise_cons.mpr ⟨fun b hb => h4 b hb, h2⟩, fun a ha b hb => ?_⟩
  rcases List.mem_cons.mp hb with e | e
  · rw [e]
    exact h3 a ha
  · exact h5 a ha b e
theorem SSt.del {κ : α → Int} {A B : List (α × α)} {x : α × α} (s : SSt κ (A ++ x :: B)) : SSt κ (A ++ B) := by
  obtain ⟨h1, h2, h3, h4, h5⟩ := s.mid
  exact List.pairwise_append.mpr ⟨h1, h2, h5⟩
theorem SSt.congr {κ κ' : α → Int} {L : List (α × α)} (s : SSt κ L) (h : ∀ z ∈ L, κ' z.1 = κ z.1) : SSt κ' L :=
  List.Pairwise.imp_of_mem (fun {a b} ha hb q => by rw [h a ha, h b hb]; exact q) s
theorem wk_key {ans : AnsT α} {κ : α → Int} (K : KeyA ans κ) (key held : α) : ∀ (t : Tr α) (lg : List (α × α)), SSt κ (toL t) →
    (∃ A B, toL t = A ++ B ∧ Lo κ key A ∧ Hi κ key B ∧ toL (wk ans t key held lg).1 = A ++ (key, held) :: B ∧ (wk ans t key held lg).2.1 = true) ∨
    (∃ A k h B, toL t = A ++ (k, h) :: B ∧ κ k = κ key ∧ Lo κ key A ∧ Hi κ key B ∧ toL (wk ans t key held lg).1 = A ++ (k, held) :: B ∧ (wk ans t key held lg).2.1 = false)
  | .lf, lg, _ => .inl ⟨[], [], rfl, (fun z hz => by cases hz), (fun z hz => by cases hz), rfl, rfl⟩
  | .nd k h l r, lg, s => by
    obtain ⟨sl, sr, s1, s2, s3⟩ := SSt.mid (x := (k, h)) s
    unfold wk
    by_cases c1 : ans lg k key = 0
    · rw [if_pos c1]
      have e := (K.eq lg k key).mp c1
      refine .inr ⟨toL l, k, h, toL r, rfl, e, fun z hz => ?_, fun z hz => ?_, rfl, rfl⟩
      · rw [← e]
        exact s1 z hz
      · rw [← e]
        exact s2 z hz
    · rw [if_neg c1]
      have ne : κ k ≠ κ key := fun z => c1 ((K.eq lg k key).mpr z)
      by_cases c2 : 0 < ans lg k key
      · rw [if_pos c2]
        have lt := (K.pos lg k key).mp c2
        simp only [evn_toL]
        have hR : Hi κ key ((k, h) :: toL r) := fun z hz => by
          rcases List.mem_cons.mp hz with e | e
          · rw [e]
            exact lt
          · exact Int.lt_trans lt (s2 z e)
        have hi2 : ∀ {B}, Hi κ key B → Hi κ key (B ++ (k, h) :: toL r) := fun hB z hz => (List.mem_append.mp hz).elim (hB z) (hR z)
        rcases wk_key K key held l (lg ++ [(k, key)]) sl with ⟨A, B, h1, hl, hh, h2, h3⟩ | ⟨A, k1, hh1, B, h1, he, hl, hh, h2, h3⟩
        · exact .inl ⟨A, B ++ (k, h) :: toL r, by rw [toL, h1, List.append_assoc], hl, hi2 hh, by rw [h2]; simp, h3⟩
        · exact .inr ⟨A, k1, hh1, B ++ (k, h) :: toL r, by rw [toL, h1]; simp, he, hl, hi2 hh, by rw [h2]; simp, h3⟩
      · rw [if_neg c2]
        have lt : κ k < κ key := by
          have : ¬ κ key < κ k := fun z => c2 ((K.pos lg k key).mpr z)
          omega
        simp only [evn_toL]
        have lo2 : ∀ {A}, Lo κ key A → Lo κ key (toL l ++ (k, h) :: A) := fun hA z hz => by
          rcases List.mem_append.mp hz with e | e
          · exact Int.lt_trans (s1 z e) lt
          · rcases List.mem_cons.mp e with e | e
            · rw [e]
              exact lt
            · exact hA z e
        rcases wk_key K key held r (lg ++ [(k, key)]) sr with ⟨A, B, h1, hl, hh, h2, h3⟩ | ⟨A, k1, hh1, B, h1, he, hl, hh, h2, h3⟩
        · exact .inl ⟨toL l ++ (k, h) :: A, B, by rw [toL, h1]; simp, lo2 hl, hh, by rw [h2]; simp, h3⟩
        · exact .inr ⟨toL l ++ (k, h) :: A, k1, hh1, B, by rw [toL, h1]; simp, he, lo2 hl, hh, by rw [h2]; simp, h3⟩
theorem wo_key {ans : AnsT α} {κ : α → Int} (K : KeyA ans κ) (key : α) : ∀ (t : Tr α) (lg : List (α × α)), SSt κ (toL t) →
    (∃ A B, toL t = A ++ B ∧ Lo κ key A ∧ Hi κ key B ∧ toL (wo ans t key lg).1 = toL t ∧ (wo ans t key lg).2.1 = false) ∨
    (∃ A k h B, toL t = A ++ (k, h) :: B ∧ κ k = κ key ∧ Lo κ key A ∧ Hi κ key B ∧ toL (wo ans t key lg).1 = A ++ B ∧ (wo ans t key lg).2.1 = true)
  | .lf, lg, _ => .inl ⟨[], [], rfl, (fun z hz => by cases hz), (fun z hz => by cases hz), rfl, rfl⟩
  | .nd k h l r, lg, s => by
    obtain ⟨sl, sr, s1, s2, s3⟩ := SSt.mid (x := (k, h)) s
    unfold wo
    by_cases c1 : ans lg k key = 0
    · rw [if_pos c1]
      have e := (K.eq lg k key).mp c1
      refine .inr ⟨toL l, k, h, toL r, rfl, e, fun z hz => ?_, fun z hz => ?_, jn_toL l r, rfl⟩
      · rw [← e]
        exact s1 z hz
      · rw [← e]
        exact s2 z hz
    · rw [if_neg c1]
      have ne : κ k ≠ κ key := fun z => c1 ((K.eq lg k key).mpr z)
      by_cases c2 : 0 < ans lg k key
      · rw [if_pos c2]
        have lt := (K.pos lg k key).mp c2
        simp only [evn_toL]
        have hR : Hi κ key ((k, h) :: toL r) := fun z hz => by
          rcases List.mem_cons.mp hz with e | e
          · rw [e]
            exact lt
          · exact Int.lt_trans lt (s2 z e)
        have hi2 : ∀ {B}, Hi κ key B → Hi κ key (B ++ (k, h) :: toL r) := fun hB z hz => (List.mem_append.mp hz).elim (hB z) (hR z)
        rcases wo_key K key l (lg ++ [(k, key)]) sl with ⟨A, B, h1, hl, hh, h2, h3⟩ | ⟨A, k1, hh1, B, h1, he, hl, hh, h2, h3⟩
        · exact .inl ⟨A, B ++ (k, h) :: toL r, by rw [toL, h1, List.append_assoc], hl, hi2 hh, by rw [h2, toL], h3⟩
        · exact .inr ⟨A, k1, hh1, B ++ (k, h) :: toL r, by rw [toL, h1]; simp, he, hl, hi2 hh, by rw [h2]; simp, h3⟩
      · rw [if_neg c2]
        have lt : κ k < κ key := by
          have : ¬ κ key < κ k := fun z => c2 ((K.pos lg k key).mpr z)
          omega
        simp only [evn_toL]
        have lo2 : ∀ {A}, Lo κ key A → Lo κ key (toL l ++ (k, h) :: A) := fun hA z hz => by
          rcases List.mem_append.mp hz with e | e
          · exact Int.lt_trans (s1 z e) lt
          · rcases List.mem_cons.mp e with e | e
            · rw [e]
              exact lt
            · exact hA z e
        rcases wo_key K key r (lg ++ [(k, key)]) sr with ⟨A, B, h1, hl, hh, h2, h3⟩ | ⟨A, k1, hh1, B, h1, he, hl, hh, h2, h3⟩
        · exact .inl ⟨toL l ++ (k, h) :: A, B, by rw [toL, h1]; simp, lo2 hl, hh, by rw [h2, toL], h3⟩
        · exact .inr ⟨toL l ++ (k, h) :: A, k1, hh1, B, by rw [toL, h1]; simp, he, lo2 hl, hh, by rw [h2]; simp, h3⟩
theorem fnd_key {ans : AnsT α} {κ : α → Int} (K : KeyA ans κ) (key : α) : ∀ (t : Tr α) (p : Nat) (lg : List (α × α)), SSt κ (toL t) →
    (∃ A B, toL t = A ++ B ∧ Lo κ key A ∧ Hi κ key B ∧ (fnd ans t key p lg).1 = none ∧ (fnd ans t key p lg).2.1 = p + A.length) ∨
    (∃ A k h B, toL t = A ++ (k, h) :: B ∧ κ k = κ key ∧ Lo κ key A ∧ Hi κ key B ∧ (fnd ans t key p lg).1 = some (k, h) ∧ (fnd ans t key p lg).2.1 = p + A.length)
  | .lf, p, lg, _ => .inl ⟨[], [], rfl, (fun z hz => by cases hz), (fun z hz => by cases hz), rfl, rfl⟩
  | .nd k h l r, p, lg, s => by
    obtain ⟨sl, sr, s1, s2, s3⟩ := SSt.mid (x := (k, h)) s
    unfold fnd
    by_cases c1 : ans lg k key = 0
    · rw [if_pos c1]
      have e := (K.eq lg k key).mp c1
      refine .inr ⟨toL l, k, h, toL r, rfl, e, fun z hz => ?_, fun z hz => ?_, rfl, by rw [cnt_len]⟩
      · rw [← e]
        exact s1 z hz
      · rw [← e]
        exact s2 z hz
    · rw [if_neg c1]
      have ne : κ k ≠ κ key := fun z => c1 ((K.eq lg k key).mpr z)
      by_cases c2 : 0 < ans lg k key
      · rw [if_pos c2]
        have lt := (K.pos lg k key).mp c2
        have hR : Hi κ key ((k, h) :: toL r) := fun z hz => by
          rcases List.mem_cons.mp hz with e | e
          · rw [e]
            exact lt
          · exact Int.lt_trans lt (s2 z e)
        have hi2 : ∀ {B}, Hi κ key B → Hi κ key (B ++ (k, h) :: toL r) := fun hB z hz => (List.mem_append.mp hz).elim (hB z) (hR z)
        rcases fnd_key K key l p (lg ++ [(k, key)]) sl with ⟨A, B, h1, hl, hh, h2, h3⟩ | ⟨A, k1, hh1, B, h1, he, hl, hh, h2, h3⟩
        · exact .inl ⟨A, B ++ (k, h) :: toL r, by rw [toL, h1, List.append_assoc], hl, hi2 hh, h2, h3⟩
        · exact .inr ⟨A, k1, hh1, B ++ (k, h) :: toL r, by rw [toL, h1]; simp, he, hl, hi2 hh, h2, h3⟩
      · rw [if_neg c2]
        have lt : κ k < κ key := by
          have : ¬ κ key < κ k := fun z => c2 ((K.pos lg k key).mpr z)
          omega
        have lo2 : ∀ {A}, Lo κ key A → Lo κ key (toL l ++ (k, h) :: A) := fun hA z hz => by
          rcases List.mem_append.mp hz with e | e
          · exact Int.lt_trans (s1 z e) lt
          · rcases List.mem_cons.mp e with e | e
            · rw [e]
              exact lt
            · exact hA z e
        have ln : ∀ A : List (α × α), p + cnt l + 1 + A.length = p + (toL l ++ (k, h) :: A).length := fun A => by
          rw [List.length_append, List.length_cons, cnt_len]
          omega
        rcases fnd_key K key r (p + cnt l + 1) (lg ++ [(k, key)]) sr with ⟨A, B, h1, hl, hh, h2, h3⟩ | ⟨A, k1, hh1, B, h1, he, hl, hh, h2, h3⟩
        · exact .inl ⟨toL l ++ (k, h) :: A, B, by rw [toL, h1]; simp, lo2 hl, hh, h2, by rw [h3, ln]⟩
        · exact .inr ⟨toL l ++ (k, h) :: A, k1, hh1, B, by rw [toL, h1]; simp, he, lo2 hl, hh, h2, by rw [h3, ln]⟩
/-- how the keys stand to one -/
theorem parts {κ : α → Int} (key : α) : ∀ {L : List (α × α)}, SSt κ L → (∃ A B, L = A ++ B ∧ Lo κ key A ∧ Hi κ key B) ∨ ∃ A k h B, L = A ++ (k, h) :: B ∧ κ k = κ key ∧ Lo κ key A ∧ Hi κ key B
  | [], _ => .inl ⟨[], [], rfl, (fun z hz => by cases hz), (fun z hz => by cases hz)⟩
  | x :: L, s => by
    have s' := List.pairwise_cons.mp s
    by_cases c1 : κ x.1 = κ key
    · exact .inr ⟨[], x.1, x.2, L, rfl, c1, (fun z hz => by cases hz), fun z hz => by rw [← c1]; exact s'.1 z hz⟩
    by_cases c2 : κ key < κ x.1
    · refine .inl ⟨[], x :: L, rfl, (fun z hz => by cases hz), fun z hz => ?_⟩
      rcases List.mem_cons.mp hz with e | e
      · rw [e]
        exact c2
      · exact Int.lt_trans c2 (s'.1 z e)
    have lt : κ x.1 < κ key := by omega
    have lo : ∀ {A}, Lo κ key A → Lo κ key (x :: A) := fun hA z hz => by
      rcases List.mem_cons.mp hz with e | e
      · rw [e]
        exact lt
      · exact hA z e
    rcases parts key s'.2 with ⟨A, B, h1, h2, h3⟩ | ⟨A, k, h, B, h1, h2, h3, h4⟩
    · exact .inl ⟨x :: A, B, by rw [h1, List.cons_append], lo h2, h3⟩
    · exact .inr ⟨x :: A, k, h, B, by rw [h1, List.cons_append], h2, lo h3, h4⟩
end Mir

set_option pp.deepTerms false
set_option pp.maxSteps 1500
namespace Ord
open PySem PySem.Spec PyProof.Rows L2
open Mir (Tr)
abbrev kyc (way : Int) (c : V → Int × Int) : V → Int := fun x => Mir.keyI way (c x)
/-- where a key stands, and how many are ahead of it -/
def FA (κ : V → Int) (key : V) (M : Lg) (fo : Int) (ah : Nat) : Prop :=
  (∃ A B, M = A ++ B ∧ Mir.Lo κ key A ∧ Mir.Hi κ key B ∧ fo = -1 ∧ ah = A.length) ∨ ∃ A k h B, M = A ++ (k, h) :: B ∧ κ k = κ key ∧ Mir.Lo κ key A ∧ Mir.Hi κ key B ∧ fo = (A.length : Nat) ∧ ah = A.length
theorem FA.of {κ : V → Int} {key : V} {M : Lg} (s : Mir.SSt κ M) : ∃ fo ah, FA κ key M fo ah := by
  rcases Mir.parts key s with ⟨A, B, h1, h2, h3⟩ | ⟨A, k, h, B, h1, h2, h3, h4⟩
  · exact ⟨_, _, .inl ⟨A, B, h1, h2, h3, rfl, rfl⟩⟩
  · exact ⟨_, _, .inr ⟨A, k, h, B, h1, h2, h3, h4, rfl, rfl⟩⟩
theorem FA.cls {κ : V → Int} {key : V} {M : Lg} {fo : Int} {ah : Nat} (h : FA κ key M fo ah) : ah ≤ M.length ∧ (fo = -1 ∨ fo = (ah : Int) ∧ ah < M.length) ∧
    ∀ (i : Nat) z, M[i]? = some z → (i < ah ∧ κ z.1 < κ key) ∨ (i = ah ∧ fo = (ah : Int) ∧ κ z.1 = κ key) ∨ (ah ≤ i ∧ fo ≠ (i : Int) ∧ κ key < κ z.1) := by
  rcases h with ⟨A, B, rfl, lo, hi, rfl, rfl⟩ | ⟨A, k, h, B, rfl, e, lo, hi, rfl, rfl⟩
  · refine ⟨by rw [List.length_append]; omega, .inl rfl, fun i z hz => ?_⟩
    by_cases c : i < A.length
    · rw [List.getElem?_append_left c] at hz
      exact .inl ⟨c, lo z (List.mem_of_getElem? hz)⟩
    · rw [List.getElem?_append_right (by omega)] at hz
      exact .inr (.inr ⟨by omega, by omega, hi z (List.mem_of_getElem? hz)⟩)
  · refine ⟨by rw [List.length_append]; omega, .inr ⟨rfl, by rw [List.length_append, List.length_cons]; omega⟩, fun i z hz => ?_⟩
    by_cases c : i < A.length
    · rw [List.getElem?_append_left c] at hz
      exact .inl ⟨c, lo z (List.mem_of_getElem? hz)⟩
    · rw [List.getElem?_append_right (by omega)] at hz
      by_cases c2 : i = A.length
      · rw [c2, Nat.sub_self] at hz
        obtain rfl : (k, h) = z := Option.some.inj hz
        exact .inr (.inl ⟨c2, rfl, e⟩)
      · obtain ⟨n, en⟩ : ∃ n, i - A.length = n + 1 := ⟨i - A.length - 1, by omega⟩
        rw [en, List.getElem?_cons_succ] at hz
        exact .inr (.inr ⟨by omega, by omega, hi z (List.mem_of_getElem? hz)⟩)
section
variable {P : Program} {w : World} {K : PySem.W.Frag} {mg : Str → Option Value} {base : Heap} {CN CM CE : Addr}
/-! ### _law_find -/
def N__law_find : List Str := ["_law_model", "_law_key", "_law_way", "_law_found", "_law_ahead_of", "_law_k", "_law_side"]
theorem sc__law_find : FnScope ["_law_model", "_law_key", "_law_way", "_law_found", "_law_ahead_of", "_law_k", "_law_side"] ["_law_model", "_law_key", "_law_way"] (defScope st__law_find) := ⟨rfl, rfl, rfl, by decide +kernel, rfl, by decide +kernel, by decide +kernel⟩
def spFind (K : PySem.W.Frag) : Sp := fun vs H Q _ => ∃ (D : Addr) (ms : List V) (M : Lg) (way : Int) (c : V → Int × Int) (key : V) (fo : Int) (ah : Nat), vs = [.ref D, key, .int way] ∧ SqL K H D ms ∧ LogAt H ms M ∧ (∀ z ∈ M, El c z.1 H) ∧ El c key H ∧ M.length ≤ 1000 ∧ FA (kyc way c) key M fo ah ∧
  ∀ tu, H tu = none → Q (.ref tu) (upd H tu (.tup [.int fo, .int (ah : Nat)]))
theorem ok_find (d__law_find : Df K mg "_law_find" st__law_find ["_law_model", "_law_key", "_law_way"]) (d__law_answer : Df K mg "_law_answer" st__law_answer ["_law_way", "_law_one", "_law_other"]) (mLen : mg "len" = none) (mInt : mg "int" = none) (mAbs : mg "abs" = none) (mRange : mg "range" = none) : FnOk P w K mg base CX0 2 d__law_find.f d__law_find.fd ["_law_model", "_law_key", "_law_way"] (spFind K) := by
  have G__law_answer : FnOk P w K mg base CX0 1 d__law_answer.f d__law_answer.fd ["_law_way", "_law_one", "_law_other"] spAnswer := ok_answer d__law_answer mInt mAbs
  refine d__law_find.F.ok sc__law_find (fun vs H Q E h => ?_) (fun cdv A outer s H vs Q E hr h => ?_)
  · obtain ⟨D, ms, M, way, c, key, fo, ah, rfl, _⟩ := h
    rfl
  · obtain ⟨D, ms, M, way, c, key, fo, ah, rfl, hS, hlg, hE, hk, hz, hF, hQ⟩ := h
    have nd := sc__law_find.nd
    refine ⟨_, (pss_cons (ps_set (i := 3) nd rfl (Or.inl rfl) (pe_un un_neg pe_int))
  (pss_cons (ps_set (i := 4) nd rfl (Or.inl rfl) pe_int)
  (pss_cons (ps_for PassesOwn.never rfl (pi_range1 (by rfl) mRange (pa_cons (pe_len mLen (pv 0)) pa_nil)) (pg_name (i := 5) nd rfl (Or.inl rfl))
    (pss_cons (ps_set (i := 6) nd rfl (Or.inl rfl) (pe_cd (d := d__law_answer) G__law_answer (hr.mono (by decide)) (pa_cons (pv 2) (pa_cons (pe_ix ix_tup (pe_ix ix_list (pv 0) (pv 5) (fun _ _ => rfl)) pe_int (fun _ _ => rfl)) (pa_cons (pv 1) pa_nil)))))
  (pss_cons (ps_if (pt_cmpR op_eq (pv 6) pe_int (nomark _))
    (pss_one (ps_set (i := 3) nd rfl (Or.inl rfl) (pv 5)))
    pss_nil)
  (pss_one (ps_set (i := 4) nd rfl (Or.inl rfl) (pe_op op_addE (pv 4) (pe_callTy call_int1 (by rfl) mInt (by decide +kernel) (pa_cons (pe_cmpR op_lt (pv 6) pe_int (nomark _)) pa_nil))))))))
  (pss_one (ps_ret (pe_tup (pa_cons (pv 3) (pa_cons (pv 4) pa_nil)))))))), ?_⟩
    have lms := hlg.length
    obtain ⟨f1, f2, f3⟩ := hF.cls
    refine ⟨_, rfl, _, rfl, D, ms, rfl, .inl hS, _, rfl, by omega, by omega, ?_⟩
    refine for_range (lo := 0) (n := (ms.length : Int).toNat) (fun i σ H' => ∃ (v5 v6 : Option V), σ = [some (.ref D), some key, some (.int way), some (.int (if 0 ≤ fo ∧ fo < (i : Int) then fo else -1)), some (.int ((min i ah : Nat) : Int)), v5, v6] ∧ H' = H)
      ⟨none, none, by rw [if_neg (by omega)]; rfl, rfl⟩ ?_ ?_
    · rintro i σ H' hi ⟨v5, v6, rfl, rfl⟩
      rw [show ((0 : Int) + (i : Nat)) = ((i : Nat) : Int) from Int.zero_add _]
      obtain ⟨x, ex⟩ : ∃ x, ms[i]? = some x := ⟨_, List.getElem?_eq_getElem (by omega)⟩
      obtain ⟨z, hz1, t, rfl, ht⟩ := LogAt.get hlg ex
      have hzE := hE z (List.mem_of_getElem? hz1)
      refine ⟨_, rfl, _, rfl, _, rfl, D, ms, (i : Int), .ref t, rfl, rfl, hS, atI_nat ex, t, [z.1, z.2], 0, z.1, rfl, rfl, SqT.of ht, rfl, _, rfl, way, z.1, key, c z.1, c key, rfl, hzE.1, hk.1, hzE.2.1, hk.2.1, ?_⟩
      obtain ⟨sd, esd⟩ : ∃ sd, sd = Mir.ansI way (c z.1) (c key) := ⟨_, rfl⟩
      have h1 := Mir.ansI_pos way (c z.1) (c key)
      rw [← esd] at h1 ⊢
      have f4 : (i < ah ∧ sd < 0) ∨ (i = ah ∧ fo = (ah : Int) ∧ sd = 0) ∨ (ah ≤ i ∧ fo ≠ (i : Int) ∧ 0 < sd) := by
        rcases f3 i z hz1 with ⟨a1, a2⟩ | ⟨a1, a2, a3⟩ | ⟨a1, a2, a3⟩
        · exact .inl ⟨a1, h1.2.mpr a2⟩
        · have a3 : Mir.keyI way (c z.1) = Mir.keyI way (c key) := a3
          have n1 : ¬ 0 < sd := fun q => by
            have := h1.1.mp q
            omega
          have n2 : ¬ sd < 0 := fun q => by
            have := h1.2.mp q
            omega
          exact .inr (.inl ⟨a1, a2, by omega⟩)
        · exact .inr (.inr ⟨a1, a2, h1.1.mpr a3⟩)
      refine ⟨_, rfl, rfl, _, rfl, iteI (fun c1 => ?_) (fun c1 => ?_)⟩
      · have hm : i = ah ∧ fo = (ah : Int) := by
          rcases f4 with ⟨_, h⟩ | ⟨a1, a2, _⟩ | ⟨_, _, h⟩ <;> first | omega | exact ⟨a1, a2⟩
        refine ⟨_, rfl, _, rfl, _, rfl, _, _, rfl, rfl, .inr ⟨_, rfl, ?_⟩⟩
        have e2 : ((min i ah : Nat) : Int) + (if decide (sd < 0) then (1 : Int) else 0) = ((min (i + 1) ah : Nat) : Int) := by
          rw [decide_eq_false (by omega), if_neg Bool.false_ne_true]
          omega
        have e1 : (if 0 ≤ fo ∧ fo < ((i + 1 : Nat) : Int) then fo else -1) = (i : Int) := by
          rw [if_pos (by omega)]
          omega
        refine ⟨_, _, ((min (i + 1) ah : Nat) : Int), rfl, rfl, e2.symm, some (.int (i : Nat)), some (.int sd), ?_, rfl⟩
        rw [e1]
        rfl
      · refine ⟨_, rfl, _, rfl, _, _, rfl, rfl, .inr ⟨_, rfl, ?_⟩⟩
        have e1 : (if 0 ≤ fo ∧ fo < ((i + 1 : Nat) : Int) then fo else -1) = (if 0 ≤ fo ∧ fo < (i : Int) then fo else -1) := by
          have : fo ≠ (i : Int) := by
            rcases f4 with ⟨h, _⟩ | ⟨_, _, h⟩ | ⟨_, h, _⟩ <;> omega
          by_cases q : 0 ≤ fo ∧ fo < (i : Int)
          · rw [if_pos q, if_pos (by omega)]
          · rw [if_neg q, if_neg (by omega)]
        have e2 : ((min i ah : Nat) : Int) + (if decide (sd < 0) then (1 : Int) else 0) = ((min (i + 1) ah : Nat) : Int) := by
          by_cases q : sd < 0
          · rw [decide_eq_true q, if_pos rfl]
            rcases f4 with ⟨h, _⟩ | ⟨_, _, h⟩ | ⟨_, _, h⟩ <;> omega
          · rw [decide_eq_false q, if_neg Bool.false_ne_true]
            rcases f4 with ⟨_, h⟩ | ⟨_, _, h⟩ | ⟨h, _, _⟩ <;> omega
        refine ⟨_, _, ((min (i + 1) ah : Nat) : Int), rfl, rfl, e2.symm, some (.int (i : Nat)), some (.int sd), ?_, rfl⟩
        rw [e1]
        rfl
    · rintro σ H' ⟨v5, v6, rfl, rfl⟩
      refine ⟨_, rfl, _, rfl, by show 2 ≤ sizeLine; decide, fun tu ntu => ?_⟩
      have h := hQ tu ntu
      rw [show (if 0 ≤ fo ∧ fo < (((ms.length : Int).toNat : Nat) : Int) then fo else -1) = fo from by
        rcases f2 with q | ⟨q, q2⟩
        · rw [if_neg (by omega), q]
        · rw [if_pos (by omega)], show ((min (ms.length : Int).toNat ah : Nat) : Int) = (ah : Int) from by omega]
      exact h
/-! ### _law_got, _law_at -/
def noneS : Str := "none"
def gotV : Option (V × V) → V
  | none => .str noneS
  | some z => z.2
def N__law_got : List Str := ["_law_tree", "_law_key"]
theorem sc__law_got : FnScope ["_law_tree", "_law_key"] ["_law_tree", "_law_key"] (defScope st__law_got) := ⟨rfl, rfl, rfl, by decide +kernel, rfl, by decide +kernel, by decide +kernel⟩
def spGot (P : Program) (w : World) (K : PySem.W.Frag) (mg : Str → Option Value) (base : Heap) (CM CN : Addr) : Sp := fun vs H Q _ => ∃ (O : Orc P w K mg base) (m dx : Addr) (v key : V) (t : Tr V) (l : Lg), vs = [.ref m, key] ∧
  H m = some (.ins CM dx (mfl O.f v)) ∧ m ≠ O.q ∧ TreeAt CN O.q H v t ∧ O.Log l H ∧ TDom O t H ∧ O.Dom key H ∧ l.length + Mir.lev t ≤ 90000 ∧
  ∀ H', KB O.q H H' → O.Log (Mir.fnd O.ans t key 0 l).2.2 H' → Q (gotV (Mir.fnd O.ans t key 0 l).1) H'
theorem ok_got (d__law_got : Df K mg "_law_got" st__law_got ["_law_tree", "_law_key"]) (d_Map_get : Dm K CM "get" "Map.get" st_Map_get ["self", "key"]) (d_Map_found : Dm K CM "found" "Map.found" st_Map_found ["self", "key"]) (d_many_of : Df K mg "many_of" st_many_of ["node"]) (TN : NodeT K CN) (TM : MapT K CM) (TE : ExcT K mg "NoElement" CE) : FnOk P w K mg base CX0 6 d__law_got.f d__law_got.fd ["_law_tree", "_law_key"] (spGot P w K mg base CM CN) := by
  refine d__law_got.F.ok sc__law_got (fun vs H Q E h => ?_) (fun cdv A outer s H vs Q E hr h => ?_)
  · obtain ⟨O, m, dx, v, key, t, l, rfl, _⟩ := h
    rfl
  · obtain ⟨O, m, dx, v, key, t, l, rfl, hm, mq, ht, hL, hD, hk, hc, hQ⟩ := h
    have nd := sc__law_got.nd
    cases e : (Mir.fnd O.ans t key 0 l).1 with
    | some z =>
      obtain ⟨k, g⟩ := z
      rw [e] at hQ
      have G_Map_get : FnOk P w K mg base CX0 5 d_Map_get.f d_Map_get.fd ["self", "key"] (spGet P w K mg base CM CN) := ok_get d_Map_get d_Map_found d_many_of TN TM
      refine ⟨_, (pss_one (ps_try_only rfl rfl ⟨rfl, by decide, .inl TE.g⟩ takes0 (fun W pn xe tk _ => (pss_one (ps_ret (pe_md (d := d_Map_get) TM.cl G_Map_get (hr.mono (by decide)) (pv 0) (pa_cons (pv 1) pa_nil))))) (fun a oe cls d pn _ _ => (pss_one (ps_ret pe_str))))), ?_⟩
      exact ⟨_, rfl, m, dx, _, rfl, hm, mfl_no _ _ (by decide +kernel) (by decide +kernel), _, rfl, O, m, dx, v, key, k, g, t, l, rfl, hm, mq, ht, hL, hD, hk, hc, e, fun H1 kb hL1 => hQ _ kb hL1⟩
    | none =>
      rw [e] at hQ
      have G_Map_get : FnOk P w K mg base (L2.CX P w) 5 d_Map_get.f d_Map_get.fd ["self", "key"] (spGetX P w K mg base CM CN CE) := ok_getX d_Map_get d_Map_found d_many_of TN TM TE
      refine ⟨_, (pss_one (ps_try_only rfl rfl ⟨rfl, by decide, .inl TE.g⟩ takes0 (fun W pn xe tk _ => (pss_one (ps_ret (pe_mdS (d := d_Map_get) TM.cl G_Map_get (hr.mono (by decide)) (fun σ => passAt tk σ) (pv 0) (pa_cons (pv 1) pa_nil))))) (fun a oe cls d pn _ _ => (pss_one (ps_ret pe_str))))), ?_⟩
      refine ⟨_, rfl, m, dx, _, rfl, hm, mfl_no _ _ (by decide +kernel) (by decide +kernel), _, rfl, O, m, dx, v, key, t, l, rfl, hm, mq, ht, hL, hD, hk, hc, e, fun H1 kb hL1 => ?_⟩
      exact ⟨true, TE.eP, fun _ a ha => hQ _ kb hL1, fun q => nomatch q⟩
def N__law_at : List Str := ["_law_tree", "_law_place"]
theorem sc__law_at : FnScope ["_law_tree", "_law_place"] ["_law_tree", "_law_place"] (defScope st__law_at) := ⟨rfl, rfl, rfl, by decide +kernel, rfl, by decide +kernel, by decide +kernel⟩
def spLawAt (CM CN : Addr) : Sp := fun vs H Q _ => ∃ (q m dx f : Addr) (v : V) (t : Tr V) (p : Int), vs = [.ref m, .int p] ∧ H m = some (.ins CM dx (mfl f v)) ∧ TreeAt CN q H v t ∧
  (∀ tu k g, 0 ≤ p → (Mir.toL t)[p.toNat]? = some (k, g) → H tu = none → Q (.ref tu) (upd H tu (.tup [k, g]))) ∧ (¬ (0 ≤ p ∧ p < (Mir.cnt t : Int)) → Q (.str noneS) H)
theorem ok_lawAt (d__law_at : Df K mg "_law_at" st__law_at ["_law_tree", "_law_place"]) (d_Map_at : Dm K CM "at" "Map.at" st_Map_at ["self", "place"]) (d_Map_size : Dm K CM "size" "Map.size" st_Map_size ["self"]) (d_many_of : Df K mg "many_of" st_many_of ["node"]) (TN : NodeT K CN) (TM : MapT K CM) (TE : ExcT K mg "NoPlace" CE) : FnOk P w K mg base CX0 4 d__law_at.f d__law_at.fd ["_law_tree", "_law_place"] (spLawAt CM CN) := by
  refine d__law_at.F.ok sc__law_at (fun vs H Q E h => ?_) (fun cdv A outer s H vs Q E hr h => ?_)
  · obtain ⟨q, m, dx, f, v, t, p, rfl, _⟩ := h
    rfl
  · obtain ⟨q, m, dx, f, v, t, p, rfl, hm, ht, hQ1, hQ2⟩ := h
    have nd := sc__law_at.nd
    by_cases hp : 0 ≤ p ∧ p < (Mir.cnt t : Int)
    · obtain ⟨i, rfl⟩ : ∃ i : Nat, p = (i : Int) := ⟨p.toNat, by omega⟩
      have G_Map_at : FnOk P w K mg base CX0 3 d_Map_at.f d_Map_at.fd ["self", "place"] (spAt CM CN) := ok_at d_Map_at d_Map_size d_many_of TN TM
      refine ⟨_, (pss_one (ps_try_only rfl rfl ⟨rfl, by decide, .inl TE.g⟩ takes0 (fun W pn xe tk _ => (pss_one (ps_ret (pe_md (d := d_Map_at) TM.cl G_Map_at (hr.mono (by decide)) (pv 0) (pa_cons (pv 1) pa_nil))))) (fun a oe cls d pn _ _ => (pss_one (ps_ret pe_str))))), ?_⟩
      exact ⟨_, rfl, m, dx, _, rfl, hm, mfl_no _ _ (by decide +kernel) (by decide +kernel), _, rfl, q, m, dx, f, v, t, i, rfl, hm, ht, by omega, fun tu k g ntu e => hQ1 tu k g hp.1 e ntu⟩
    · have G_Map_at : FnOk P w K mg base (L2.CX P w) 3 d_Map_at.f d_Map_at.fd ["self", "place"] (spAtX CM CN CE) := ok_atX d_Map_at d_Map_size d_many_of TN TM TE
      refine ⟨_, (pss_one (ps_try_only rfl rfl ⟨rfl, by decide, .inl TE.g⟩ takes0 (fun W pn xe tk _ => (pss_one (ps_ret (pe_mdS (d := d_Map_at) TM.cl G_Map_at (hr.mono (by decide)) (fun σ => passAt tk σ) (pv 0) (pa_cons (pv 1) pa_nil))))) (fun a oe cls d pn _ _ => (pss_one (ps_ret pe_str))))), ?_⟩
      refine ⟨_, rfl, m, dx, _, rfl, hm, mfl_no _ _ (by decide +kernel) (by decide +kernel), _, rfl, q, m, dx, f, v, t, p, rfl, hm, ht, hp, ?_⟩
      exact ⟨true, TE.eP, fun _ a ha => hQ2 hp, fun q => nomatch q⟩
end
end Ord

set_option pp.deepTerms false
set_option pp.maxSteps 1500
namespace Ord
open PySem PySem.Spec PyProof.Rows L2
open Mir (Tr)
theorem FA.none {κ : V → Int} {key : V} {A B : Lg} {fo : Int} {ah : Nat} (h : FA κ key (A ++ B) fo ah) (lo : Mir.Lo κ key A) (hi : Mir.Hi κ key B) : fo = -1 ∧ ah = A.length := by
  obtain ⟨f1, f2, f3⟩ := h.cls
  rw [List.length_append] at f1 f2
  have a1 : A.length ≤ ah := Nat.le_of_not_lt fun z => by
    have e : (A ++ B)[ah]? = some A[ah] := by rw [List.getElem?_append_left z, List.getElem?_eq_getElem z]
    have h1 := lo _ (List.getElem_mem z)
    rcases f3 ah _ e with ⟨h, _⟩ | ⟨_, _, h⟩ | ⟨_, _, h⟩ <;> omega
  have a2 : ∀ i, A.length ≤ i → i < A.length + B.length → ah ≤ i ∧ fo ≠ (i : Int) := fun i h1 h2 => by
    have hb : i - A.length < B.length := by omega
    have e : (A ++ B)[i]? = some B[i - A.length] := by rw [List.getElem?_append_right h1, List.getElem?_eq_getElem hb]
    have h1 := hi _ (List.getElem_mem hb)
    rcases f3 i _ e with ⟨_, h⟩ | ⟨_, _, h⟩ | ⟨h3, h4, _⟩
    · omega
    · omega
    · exact ⟨h3, h4⟩
  have a3 : ah = A.length := by
    by_cases z : A.length < ah
    · have := (a2 A.length (Nat.le_refl _) (by omega)).1
      omega
    · omega
  refine ⟨?_, a3⟩
  rcases f2 with h | ⟨h1, h2⟩
  · exact h
  · exact absurd h1 (a2 ah a1 h2).2
theorem FA.some {κ : V → Int} {key k g : V} {A B : Lg} {fo : Int} {ah : Nat} (h : FA κ key (A ++ (k, g) :: B) fo ah) (e : κ k = κ key) : fo = (A.length : Nat) ∧ ah = A.length := by
  obtain ⟨f1, f2, f3⟩ := h.cls
  have h1 : (A ++ (k, g) :: B)[A.length]? = Option.some (k, g) := by rw [List.getElem?_append_right (Nat.le_refl _), Nat.sub_self]; rfl
  rcases f3 _ _ h1 with ⟨_, h⟩ | ⟨h2, h3, _⟩ | ⟨_, _, h⟩
  · have h : κ k < κ key := h
    omega
  · exact ⟨by omega, h2.symm⟩
  · have h : κ key < κ k := h
    omega
theorem LogAt.ins {H : Hp} {kt : Addr} {x y : V} (e : H kt = some (.tup [x, y])) : ∀ {A B : Lg} {ms : List V}, LogAt H ms (A ++ B) → LogAt H (ms.take A.length ++ [.ref kt] ++ ms.drop A.length) (A ++ (x, y) :: B)
  | [], B, ms, h => .cons ⟨kt, rfl, e⟩ (by rw [List.length_nil, List.drop_zero]; exact h)
  | a :: A, B, _, .cons r t => .cons r (LogAt.ins e (A := A) (B := B) t)
theorem LogAt.put {H : Hp} {kt : Addr} {k g y : V} (e : H kt = some (.tup [k, y])) : ∀ {A B : Lg} {ms : List V}, LogAt H ms (A ++ (k, g) :: B) → LogAt H (ms.set A.length (.ref kt)) (A ++ (k, y) :: B)
  | [], B, _, .cons r t => .cons ⟨kt, rfl, e⟩ t
  | a :: A, B, _, .cons r t => .cons r (LogAt.put e (A := A) (B := B) t)
theorem LogAt.del {H : Hp} {z : V × V} : ∀ {A B : Lg} {ms : List V}, LogAt H ms (A ++ z :: B) → LogAt H (ms.eraseIdx A.length) (A ++ B)
  | [], B, _, .cons r t => t
  | a :: A, B, _, .cons r t => .cons r (LogAt.del (A := A) (B := B) t)
theorem LogAt.at {H : Hp} {z : V × V} : ∀ {A B : Lg} {ms : List V}, LogAt H ms (A ++ z :: B) → ∃ t, ms[A.length]? = some (.ref t) ∧ H t = some (.tup [z.1, z.2])
  | [], B, _, .cons r t => by
    obtain ⟨p, h1, h2⟩ := r
    exact ⟨p, by rw [h1]; rfl, h2⟩
  | a :: A, B, _, .cons r t => LogAt.at (A := A) (B := B) t
structure KB3 (q m D : Addr) (H H' : Hp) : Prop where
  keep : ∀ b o, b ≠ q → b ≠ m → b ≠ D → H b = some o → H' b = some o
  tk : TK H H'
section
variable {q m D : Addr} {H H1 H' : Hp}
theorem KB3.of2 (k : KB2 q m H H') : KB3 q m D H H' := ⟨fun b o n n2 _ e => k.keep b o n n2 e, k.tk⟩
theorem KB3.of1 (k : KB q H H') : KB3 q m D H H' := .of2 (.of_kb k)
theorem KB3.same (s : Same H H') : KB3 q m D H H' := ⟨fun b o _ _ _ e => s b o e, Same.tk s⟩
theorem KB3.trans (a : KB3 q m D H H1) (b : KB3 q m D H1 H') : KB3 q m D H H' := ⟨fun c o n n2 n3 e => b.keep c o n n2 n3 (a.keep c o n n2 n3 e), a.tk.trans b.tk⟩
theorem KB3.wr {xs ys : List V} (e : H D = some (.lst xs)) : KB3 q m D H (upd H D (.lst ys)) := ⟨fun b o _ _ n3 eb => by rw [upd_ne n3]; exact eb, TK.wr e nf_lst⟩
end
section
variable {P : Program} {w : World} {K : PySem.W.Frag} {mg : Str → Option Value} {base : Heap} {CN CM CE : Addr}
/-- what a deed leaves -/
structure DeedOut (O : Orc P w K mg base) (CM CN m D dx : Addr) (way : Int) (c : V → Int × Int) (key : V) (t : Tr V) (l : Lg) (H H' : Hp) (t2 : Tr V) (ml : Lg) : Prop where
  kb : KB3 O.q m D H H'
  tr : ∃ v', H' m = some (.ins CM dx (mfl O.f v')) ∧ TreeAt CN O.q H' v' t2
  log : O.Log (l ++ ml) H'
  ms : ∃ ms2, H' D = some (.lst ms2) ∧ LogAt H' ms2 (Mir.toL t2)
  srt : Mir.SSt (kyc way c) (Mir.toL t2)
  bal : Mir.Bal t2
  el : ∀ z ∈ Mir.toL t2, El c z.1 H' ∧ ∃ i, z.2 = V.int i
  cn : Mir.cnt t2 ≤ Mir.cnt t + 1
  nl : ml.length ≤ Mir.lev t
  mm : ∀ z ∈ ml, z.2 = key ∧ z.1 ∈ (Mir.toL t).map (·.1)
def N__law_deed : List Str := ["_law_tree", "_law_model", "_law_way", "_law_more", "_law_key", "_law_found", "_law_passed", "_law_told", "_law_due"]
theorem sc__law_deed : FnScope ["_law_tree", "_law_model", "_law_way", "_law_more", "_law_key", "_law_found", "_law_passed", "_law_told", "_law_due"] ["_law_tree", "_law_model", "_law_way", "_law_more", "_law_key"] (defScope st__law_deed) := ⟨rfl, rfl, rfl, by decide +kernel, rfl, by decide +kernel, by decide +kernel⟩
def spDeed (P : Program) (w : World) (K : PySem.W.Frag) (mg : Str → Option Value) (base : Heap) (CM CN : Addr) : Sp := fun vs H Q _ => ∃ (O : Orc P w K mg base) (m dx D : Addr) (v key : V) (t : Tr V) (l : Lg) (ms : List V) (way mo : Int) (c : V → Int × Int), vs = [.ref m, .ref D, .int way, .int mo, key] ∧
  H m = some (.ins CM dx (mfl O.f v)) ∧ m ≠ O.q ∧ TreeAt CN O.q H v t ∧ Mir.lev t ≤ 12 ∧ O.Log l H ∧ TDom O t H ∧ O.Dom key H ∧ l.length ≤ 80000 ∧ Mir.Bal t ∧
  H D = some (.lst ms) ∧ D ≠ O.q ∧ LogAt H ms (Mir.toL t) ∧ (∀ z ∈ Mir.toL t, El c z.1 H ∧ ∃ i, z.2 = V.int i) ∧ El c key H ∧ Mir.cnt t ≤ 60 ∧ Mir.KeyA O.ans (kyc way c) ∧ Mir.SSt (kyc way c) (Mir.toL t) ∧
  ∀ H' t2 ml, DeedOut O CM CN m D dx way c key t l H H' t2 ml → Q (.bl true) H'
theorem ok_deed (d__law_deed : Df K mg "_law_deed" st__law_deed ["_law_tree", "_law_model", "_law_way", "_law_more", "_law_key"]) (d__law_find : Df K mg "_law_find" st__law_find ["_law_model", "_law_key", "_law_way"]) (d__law_answer : Df K mg "_law_answer" st__law_answer ["_law_way", "_law_one", "_law_other"]) (d__law_got : Df K mg "_law_got" st__law_got ["_law_tree", "_law_key"]) (d_Map_put : Dm K CM "put" "Map.put" st_Map_put ["self", "key", "held"]) (d_Map_drop : Dm K CM "drop" "Map.drop" st_Map_drop ["self", "key"]) (d_Map_get : Dm K CM "get" "Map.get" st_Map_get ["self", "key"]) (d_Map_has : Dm K CM "has" "Map.has" st_Map_has ["self", "key"]) (d_Map_found : Dm K CM "found" "Map.found" st_Map_found ["self", "key"]) (d_with_key : Df K mg "with_key" st_with_key ["node", "key", "held", "order"]) (d_without_key : Df K mg "without_key" st_without_key ["node", "key", "order"]) (d_joined : Df K mg "joined" st_joined ["left", "right"]) (d_without_first : Df K mg "without_first" st_without_first ["node"]) (d_even : Df K mg "even" st_even ["key", "held", "left", "right"]) (d_lean : Df K mg "lean" st_lean ["node"]) (d_right_up : Df K mg "right_up" st_right_up ["node"]) (d_left_up : Df K mg "left_up" st_left_up ["node"]) (d_Node : Di K mg CN "Node" "Node.__init__" st_Node___init__ ["self", "key", "held", "left", "right"]) (d_level_of : Df K mg "level_of" st_level_of ["node"]) (d_many_of : Df K mg "many_of" st_many_of ["node"]) (TN : NodeT K CN) (TM : MapT K CM) (TE : ExcT K mg "NoElement" CE)
    (mLen : mg "len" = none) (mInt : mg "int" = none) (mAbs : mg "abs" = none) (mRange : mg "range" = none) (mMax : mg "max" = none) (mIsi : mg "isinstance" = none) (mBool : mg "bool" = none) : FnOk P w K mg base CX0 34 d__law_deed.f d__law_deed.fd ["_law_tree", "_law_model", "_law_way", "_law_more", "_law_key"] (spDeed P w K mg base CM CN) := by
  have G__law_find : FnOk P w K mg base CX0 2 d__law_find.f d__law_find.fd ["_law_model", "_law_key", "_law_way"] (spFind K) := ok_find d__law_find d__law_answer mLen mInt mAbs mRange
  have G__law_got : FnOk P w K mg base CX0 6 d__law_got.f d__law_got.fd ["_law_tree", "_law_key"] (spGot P w K mg base CM CN) := ok_got d__law_got d_Map_get d_Map_found d_many_of TN TM TE
  have G_Map_put : FnOk P w K mg base CX0 19 d_Map_put.f d_Map_put.fd ["self", "key", "held"] (spPut P w K mg base CM CN) := ok_put d_Map_put d_with_key d_even d_lean d_right_up d_left_up d_Node d_level_of d_many_of TN TM mMax
  have G_Map_drop : FnOk P w K mg base CX0 33 d_Map_drop.f d_Map_drop.fd ["self", "key"] (spDrop P w K mg base CM CN) := ok_drop d_Map_drop d_without_key d_joined d_without_first d_even d_lean d_right_up d_left_up d_Node d_level_of d_many_of TN TM mMax
  have G_Map_has : FnOk P w K mg base CX0 5 d_Map_has.f d_Map_has.fd ["self", "key"] (spHas P w K mg base CM CN) := ok_has d_Map_has d_Map_found d_many_of TN TM
  refine d__law_deed.F.ok sc__law_deed (fun vs H Q E h => ?_) (fun cdv A outer s H vs Q E hr h => ?_)
  · obtain ⟨O, m, dx, D, v, key, t, l, ms, way, mo, c, rfl, _⟩ := h
    rfl
  · obtain ⟨O, m, dx, D, v, key, t, l, ms, way, mo, c, rfl, hm, mq, ht, lv, hL, hTD, hk, hl, hB, hD, Dq, hlg, hE, hkE, hcn, KA, SS, hQ⟩ := h
    have nd := sc__law_deed.nd
    refine ⟨_, (pss_cons (ps_asg (pe_cd (d := d__law_find) G__law_find (hr.mono (by decide)) (pa_cons (pv 1) (pa_cons (pv 4) (pa_cons (pv 2) pa_nil)))) (pg_tup (by rfl) (pgs_cons (pg_name (i := 5) nd rfl (Or.inl rfl)) (pgs_cons (pg_name (i := 6) nd rfl (Or.inl rfl)) pgs_nil))))
  (pss_cons (ps_if (pt_cmpR op_lt (pe_op op_modE (pv 3) pe_int) pe_int (nomark _))
    (pss_cons (ps_set (i := 7) nd rfl (Or.inl rfl) (pe_md (d := d_Map_put) TM.cl G_Map_put (hr.mono (by decide)) (pv 0) (pa_cons (pv 4) (pa_cons (pv 3) pa_nil))))
  (C8.pss_cut (ps_if (pt_cmpR op_lt (pv 5) pe_int (nomark _))
    (pss_one (ps_expr (pe_bm PySem.F.plainAttrs_list PySem.F.slot_list_insert PySem.F.type_list_insert mt_insert (pv 1) (pa_cons (pv 6) (pa_cons (pe_tup (pa_cons (pv 4) (pa_cons (pv 3) pa_nil))) pa_nil)))))
    (pss_one (ps_asg (pe_tup (pa_cons (pe_ix ix_tup (pe_ix ix_list (pv 1) (pv 5) (fun _ _ => rfl)) pe_int (fun _ _ => rfl)) (pa_cons (pv 3) pa_nil))) (pg_sub (pv 1) (pv 5) set_list))))
  (pss_one (ps_ret (pe_and (pe_callB call_isi (by rfl) mIsi (by decide +kernel) (pa_cons (pv 7) (pa_cons (pe_bltn (v := .ty "bool") (by rfl) mBool (by decide +kernel) rfl) pa_nil))) (pe_one (pe_cmpR op_eq (pv 7) (pe_cmpR op_lt (pv 5) pe_int (nomark _)) (nomark _))))))))
    pss_nil)
  (pss_cons (ps_if (pt_cmpR op_eq (pe_op op_modE (pv 3) pe_int) pe_int (nomark _))
    (pss_cons (ps_set (i := 7) nd rfl (Or.inl rfl) (pe_md (d := d_Map_drop) TM.cl G_Map_drop (hr.mono (by decide)) (pv 0) (pa_cons (pv 4) pa_nil)))
  (C8.pss_cut (ps_if (pt_cmpR op_ge (pv 5) pe_int (nomark _))
    (pss_one (ps_expr (pe_bm PySem.F.plainAttrs_list PySem.F.slot_list_pop PySem.F.type_list_pop mt_popAt (pv 1) (pa_cons (pv 5) pa_nil))))
    pss_nil)
  (pss_one (ps_ret (pe_and (pe_callB call_isi (by rfl) mIsi (by decide +kernel) (pa_cons (pv 7) (pa_cons (pe_bltn (v := .ty "bool") (by rfl) mBool (by decide +kernel) rfl) pa_nil))) (pe_one (pe_cmpR op_eq (pv 7) (pe_cmpR op_ge (pv 5) pe_int (nomark _)) (nomark _))))))))
    pss_nil)
  (pss_cons (ps_if (pt_cmpR op_eq (pe_op op_modE (pv 3) pe_int) pe_int (nomark _))
    (pss_cons (ps_set (i := 8) nd rfl (Or.inl rfl) pe_str)
  (C8.pss_cut (ps_if (pt_cmpR op_ge (pv 5) pe_int (nomark _))
    (pss_one (ps_set (i := 8) nd rfl (Or.inl rfl) (pe_ix ix_tup (pe_ix ix_list (pv 1) (pv 5) (fun _ _ => rfl)) pe_int (fun _ _ => rfl))))
    pss_nil)
  (pss_one (ps_ret (pe_cmpR (op_eqD hr.units) (pe_cd (d := d__law_got) G__law_got (hr.mono (by decide)) (pa_cons (pv 0) (pa_cons (pv 4) pa_nil))) (pv 8) (nomark _))))))
    pss_nil)
  (pss_one (ps_ret (pe_cmpR op_eq (pe_md (d := d_Map_has) TM.cl G_Map_has (hr.mono (by decide)) (pv 0) (pa_cons (pv 4) pa_nil)) (pe_cmpR op_ge (pv 5) pe_int (nomark _)) (nomark _)))))))), ?_⟩
    obtain ⟨fo, ah, hF⟩ := FA.of (key := key) SS
    have ll := Mir.cnt_len t
    refine ⟨_, rfl, _, rfl, _, rfl, D, ms, Mir.toL t, way, c, key, fo, ah, rfl, SqL.of hD, hlg, fun z hz => (hE z hz).1, hkE, by omega, hF, fun tu ntu => ?_⟩
    have s1 := Same.new (o := .tup [.int fo, .int (ah : Nat)]) ntu
    have htu : upd H tu (.tup [.int fo, .int (ah : Nat)]) tu = some (.tup [.int fo, .int (ah : Nat)]) := upd_same
    have hL1 : O.Log l (upd H tu (.tup [.int fo, .int (ah : Nat)])) := O.new hL ntu
    obtain ⟨H1, e1⟩ : ∃ Z, Z = upd H tu (.tup [.int fo, .int (ah : Nat)]) := ⟨_, rfl⟩
    rw [← e1] at s1 htu hL1 ⊢
    clear e1 ntu
    have hm1 := s1 _ _ hm
    have ht1 := ht.same s1
    have hTD1 := hTD.tk (Same.tk s1)
    have hk1 := O.dom (Same.tk s1) hk
    have hD1 := s1 _ _ hD
    have hlg1 := hlg.tk (Same.tk s1)
    have k1 : KB3 O.q m D H H1 := .same s1
    have lm : ms.length = Mir.cnt t := by rw [hlg.length, ll]
    have fc := hF.cls
    have Dm : D ≠ m := fun z => by
      rw [z, hm] at hD
      cases hD
    refine ⟨tu, _, rfl, SqT.of htu, rfl, _, _, rfl, _, _, rfl, rfl, ?_⟩
    refine ⟨_, rfl, _, _, mo % 5, rfl, rfl, (by show (0 : Int) < 5; decide), rfl, _, _, rfl, rfl, _, rfl, iteD (fun _ => ?_) (fun _ => ?_)⟩
    · -- put
      refine ⟨_, rfl, m, dx, _, rfl, hm1, mfl_no _ _ (by decide +kernel) (by decide +kernel), _, rfl, _, rfl, O, m, dx, v, key, .int mo, t, l, rfl, hm1, mq, ht1, lv, hL1, hTD1, hk1, hl, fun H2 v' kb hm2 ht2 hL2 => ?_⟩
      obtain ⟨ml, el1, el2, el3⟩ := Mir.wk_log O.ans key (.int mo) t l
      have hb2 := (Mir.wk_bal O.ans key (.int mo) t l hB).1
      have hc2 := Mir.wk_cnt O.ans key (.int mo) t l
      have hme := Mir.wk_mem O.ans key (.int mo) t l
      have hkey := Mir.wk_key KA key (.int mo) t l SS
      rw [el1] at hL2
      obtain ⟨told, etold⟩ : ∃ b, b = (Mir.wk O.ans t key (.int mo) l).2.1 := ⟨_, rfl⟩
      obtain ⟨t2, et2⟩ : ∃ z, z = (Mir.wk O.ans t key (.int mo) l).1 := ⟨_, rfl⟩
      rw [← et2] at ht2 hb2 hc2 hme hkey
      rw [← etold] at hc2 hkey ⊢
      have k2 : KB3 O.q m D H H2 := k1.trans (.of2 kb)
      have hD2 := kb.keep _ _ Dq Dm hD1
      have hlg2 := hlg1.tk kb.tk
      have out : ∀ H3, KB3 O.q m D H2 H3 → H3 m = some (.ins CM dx (mfl O.f v')) → TreeAt CN O.q H3 v' t2 → O.Log (l ++ ml) H3 → (∃ ms2, H3 D = some (.lst ms2) ∧ LogAt H3 ms2 (Mir.toL t2)) → Mir.SSt (kyc way c) (Mir.toL t2) → Q (.bl true) H3 := fun H3 k3 a1 a2 a3 a4 a5 =>
        hQ H3 t2 ml ⟨k2.trans k3, ⟨v', a1, a2⟩, a3, a4, a5, hb2, fun z hz => by
          have kT := (k2.trans k3).tk
          rcases hme z hz with q | ⟨q1, q2⟩
          · exact ⟨(hE z q).1.tk kT, (hE z q).2⟩
          · refine ⟨?_, _, q1⟩
            rcases q2 with q2 | ⟨g, q2⟩
            · rw [q2]
              exact hkE.tk kT
            · exact (hE _ q2).1.tk kT, by rw [hc2]; split <;> omega, el2, el3⟩
      have fin : ∀ (b : Bool) H3, told = decide (fo < 0) → b = told → KB3 O.q m D H2 H3 → H3 m = some (.ins CM dx (mfl O.f v')) → TreeAt CN O.q H3 v' t2 → O.Log (l ++ ml) H3 → (∃ ms2, H3 D = some (.lst ms2) ∧ LogAt H3 ms2 (Mir.toL t2)) → Mir.SSt (kyc way c) (Mir.toL t2) → Q (.bl (decide (V.bl b = V.bl (decide (fo < 0))))) H3 := fun b H3 e e2 k3 a1 a2 a3 a4 a5 => by
        rw [e2, ← e, decide_eq_true rfl]
        exact out H3 k3 a1 a2 a3 a4 a5
      refine ⟨fun σ H3 => σ = [some (.ref m), some (.ref D), some (.int way), some (.int mo), some key, some (.int fo), some (.int (ah : Nat)), some (.bl told), none] ∧ told = decide (fo < 0) ∧ KB3 O.q m D H2 H3 ∧ H3 m = some (.ins CM dx (mfl O.f v')) ∧ TreeAt CN O.q H3 v' t2 ∧ O.Log (l ++ ml) H3 ∧ (∃ ms2, H3 D = some (.lst ms2) ∧ LogAt H3 ms2 (Mir.toL t2)) ∧ Mir.SSt (kyc way c) (Mir.toL t2), ?_, ?_⟩
      · refine ⟨_, rfl, _, _, rfl, rfl, _, rfl, ?_⟩
        rcases hkey with ⟨A, B, h1, lo, hi, h2, h3⟩ | ⟨A, k, g, B, h1, he, lo, hi, h2, h3⟩
        · rw [h1] at hF hlg2 SS
          obtain ⟨f1, f2⟩ := hF.none lo hi
          refine iteD (fun _ => ?_) (fun z => absurd (show fo < 0 by omega) z)
          refine ⟨_, rfl, .inl ⟨rfl, _, SqL.of hD2⟩, _, rfl, _, rfl, _, rfl, by show 2 ≤ sizeLine; decide, fun kt nkt => ?_⟩
          have s3 := Same.new (o := .tup [key, .int mo]) nkt
          have hkt : upd H2 kt (.tup [key, .int mo]) kt = some (.tup [key, .int mo]) := upd_same
          have hL3 : O.Log (l ++ ml) (upd H2 kt (.tup [key, .int mo])) := O.new hL2 nkt
          obtain ⟨H3, e3⟩ : ∃ Z, Z = upd H2 kt (.tup [key, .int mo]) := ⟨_, rfl⟩
          rw [← e3] at s3 hkt hL3 ⊢
          clear e3 nkt
          have hD3 := s3 _ _ hD2
          have kT : TK H3 (upd H3 D (.lst (ms.take ah ++ [.ref kt] ++ ms.drop ah))) := TK.wr hD3 nf_lst
          have hll := (hlg2.tk (Same.tk s3)).ins hkt
          refine ⟨D, ms, ((ah : Nat) : Int), .ref kt, rfl, rfl, hD3, small1000 (by omega), by omega, by omega, ?_⟩
          rw [Int.toNat_natCast]
          refine ⟨rfl, by rw [h3, decide_eq_true (by omega)], (KB3.same s3).trans (.wr hD3), (upd_ne Dm.symm).trans (s3 _ _ hm2), (ht2.same s3).offk (fun _ _ _ _ _ _ _ z => by rw [z] at hD3; cases hD3) (fun b o n e => by rw [upd_ne n]; exact e), O.wr hL3 hD3 nf_lst Dq, ⟨_, upd_same, ?_⟩, ?_⟩
          · rw [h2, f2]
            rw [f2] at kT
            exact hll.tk kT
          · rw [h2]
            exact SS.ins lo hi
        · rw [h1] at hF hlg2 SS
          obtain ⟨f1, f2⟩ := hF.some he
          refine iteD (fun z => ?_) (fun _ => ?_)
          · have z : fo < 0 := z
            omega
          obtain ⟨pt, hpt, hpt2⟩ := hlg2.at
          refine ⟨_, rfl, _, rfl, D, ms, fo, .ref pt, rfl, rfl, SqL.of hD2, by rw [f1]; exact atI_nat hpt, pt, [k, g], 0, k, rfl, rfl, SqT.of hpt2, rfl, _, rfl, by show 2 ≤ sizeLine; decide, fun kt nkt => ?_⟩
          have s3 := Same.new (o := .tup [k, .int mo]) nkt
          have hkt : upd H2 kt (.tup [k, .int mo]) kt = some (.tup [k, .int mo]) := upd_same
          have hL3 : O.Log (l ++ ml) (upd H2 kt (.tup [k, .int mo])) := O.new hL2 nkt
          obtain ⟨H3, e3⟩ : ∃ Z, Z = upd H2 kt (.tup [k, .int mo]) := ⟨_, rfl⟩
          rw [← e3] at s3 hkt hL3 ⊢
          clear e3 nkt
          have hD3 := s3 _ _ hD2
          have kT : TK H3 (upd H3 D (.lst (ms.set ah (.ref kt)))) := TK.wr hD3 nf_lst
          have hll := (hlg2.tk (Same.tk s3)).put hkt
          have hal : ah < ms.length := by
            rw [h1, List.length_append, List.length_cons] at ll
            omega
          refine ⟨_, rfl, _, rfl, D, ms, fo, ah, rfl, rfl, hD3, ?_, ?_⟩
          · unfold ixN
            rw [if_pos (by omega), if_pos (by omega)]
            congr 1
            omega
          refine ⟨rfl, by rw [h3, decide_eq_false (by omega)], (KB3.same s3).trans (.wr hD3), (upd_ne Dm.symm).trans (s3 _ _ hm2), (ht2.same s3).offk (fun _ _ _ _ _ _ _ z => by rw [z] at hD3; cases hD3) (fun b o n e => by rw [upd_ne n]; exact e), O.wr hL3 hD3 nf_lst Dq, ⟨_, upd_same, ?_⟩, ?_⟩
          · rw [h2, f2]
            rw [f2] at kT
            exact hll.tk kT
          · rw [h2]
            exact SS.put
      rintro σ H3 ⟨rfl, e, k3, a1, a2, a3, a4, a5⟩
      refine ⟨_, rfl, .bl told, .ty "bool", _, _, true, rfl, .ty _, .base (.bl told), kit_ty (by decide +kernel), _, rfl, ?_⟩
      exact ⟨_, rfl, _, rfl, _, _, rfl, rfl, rfl, fin _ _ e rfl k3 a1 a2 a3 a4 a5⟩
    refine ⟨_, rfl, _, _, mo % 5, rfl, rfl, (by show (0 : Int) < 5; decide), rfl, rfl, _, rfl, iteI (fun _ => ?_) (fun _ => ?_)⟩
    · -- drop
      refine ⟨_, rfl, m, dx, _, rfl, hm1, mfl_no _ _ (by decide +kernel) (by decide +kernel), _, rfl, O, m, dx, v, key, t, l, rfl, hm1, mq, ht1, lv, hL1, hTD1, hk1, hl, fun H2 v' kb hm2 ht2 hL2 => ?_⟩
      obtain ⟨ml, el1, el2, el3⟩ := Mir.wo_log O.ans key t l
      have hb2 := (Mir.wo_bal O.ans key t l hB).1
      have hc2 := Mir.wo_cnt O.ans key t l
      have hme := Mir.wo_mem O.ans key t l
      have hkey := Mir.wo_key KA key t l SS
      rw [el1] at hL2
      obtain ⟨told, etold⟩ : ∃ b, b = (Mir.wo O.ans t key l).2.1 := ⟨_, rfl⟩
      obtain ⟨t2, et2⟩ : ∃ z, z = (Mir.wo O.ans t key l).1 := ⟨_, rfl⟩
      rw [← et2] at ht2 hb2 hc2 hme hkey
      rw [← etold] at hc2 hkey ⊢
      have k2 : KB3 O.q m D H H2 := k1.trans (.of2 kb)
      have hD2 := kb.keep _ _ Dq Dm hD1
      have hlg2 := hlg1.tk kb.tk
      have out : ∀ H3, KB3 O.q m D H2 H3 → H3 m = some (.ins CM dx (mfl O.f v')) → TreeAt CN O.q H3 v' t2 → O.Log (l ++ ml) H3 → (∃ ms2, H3 D = some (.lst ms2) ∧ LogAt H3 ms2 (Mir.toL t2)) → Mir.SSt (kyc way c) (Mir.toL t2) → Q (.bl true) H3 := fun H3 k3 a1 a2 a3 a4 a5 =>
        hQ H3 t2 ml ⟨k2.trans k3, ⟨v', a1, a2⟩, a3, a4, a5, hb2, fun z hz => ⟨(hE z (hme z hz)).1.tk (k2.trans k3).tk, (hE z (hme z hz)).2⟩, by split at hc2 <;> omega, el2, el3⟩
      have fin : ∀ (b : Bool) H3, told = decide (0 ≤ fo) → b = told → KB3 O.q m D H2 H3 → H3 m = some (.ins CM dx (mfl O.f v')) → TreeAt CN O.q H3 v' t2 → O.Log (l ++ ml) H3 → (∃ ms2, H3 D = some (.lst ms2) ∧ LogAt H3 ms2 (Mir.toL t2)) → Mir.SSt (kyc way c) (Mir.toL t2) → Q (.bl (decide (V.bl b = V.bl (decide (0 ≤ fo))))) H3 := fun b H3 e e2 k3 a1 a2 a3 a4 a5 => by
        rw [e2, ← e, decide_eq_true rfl]
        exact out H3 k3 a1 a2 a3 a4 a5
      refine ⟨fun σ H3 => σ = [some (.ref m), some (.ref D), some (.int way), some (.int mo), some key, some (.int fo), some (.int (ah : Nat)), some (.bl told), none] ∧ told = decide (0 ≤ fo) ∧ KB3 O.q m D H2 H3 ∧ H3 m = some (.ins CM dx (mfl O.f v')) ∧ TreeAt CN O.q H3 v' t2 ∧ O.Log (l ++ ml) H3 ∧ (∃ ms2, H3 D = some (.lst ms2) ∧ LogAt H3 ms2 (Mir.toL t2)) ∧ Mir.SSt (kyc way c) (Mir.toL t2), ?_, ?_⟩
      · refine ⟨_, rfl, _, _, rfl, rfl, _, rfl, ?_⟩
        rcases hkey with ⟨A, B, h1, lo, hi, h2, h3⟩ | ⟨A, k, g, B, h1, he, lo, hi, h2, h3⟩
        · have hF' := hF
          rw [h1] at hF'
          obtain ⟨f1, f2⟩ := hF'.none lo hi
          refine iteD (fun z => ?_) (fun _ => ?_)
          · have z : fo ≥ 0 := z
            omega
          exact ⟨rfl, by rw [h3, decide_eq_false (by omega)], .same (Same.refl _), hm2, ht2, hL2, ⟨_, hD2, by rw [h2]; exact hlg2⟩, by rw [h2]; exact SS⟩
        · rw [h1] at hF hlg2 SS
          obtain ⟨f1, f2⟩ := hF.some he
          refine iteD (fun _ => ?_) (fun z => absurd (show fo ≥ 0 by omega) z)
          obtain ⟨pt, hpt, hpt2⟩ := hlg2.at
          have hal : ah < ms.length := by
            rw [h1, List.length_append, List.length_cons] at ll
            omega
          have kT : TK H2 (upd H2 D (.lst (ms.eraseIdx ah))) := TK.wr hD2 nf_lst
          refine ⟨_, rfl, .inl ⟨rfl, _, SqL.of hD2⟩, _, rfl, D, ms, fo, ah, .ref pt, rfl, rfl, hD2, by omega, by omega, ?_, by rw [f2]; exact hpt, ?_⟩
          · rw [f1, ← f2]
            unfold seqIndex?
            have h0 : ¬ ((ah : Nat) : Int) < 0 := by omega
            simp only [h0, if_false]
            rw [if_pos (by simp; omega)]
            simp
          refine ⟨rfl, by rw [h3, decide_eq_true (by omega)], .wr hD2, (upd_ne Dm.symm).trans hm2, ht2.offk (fun _ _ _ _ _ _ _ z => by rw [z] at hD2; cases hD2) (fun b o n e => by rw [upd_ne n]; exact e), O.wr hL2 hD2 nf_lst Dq, ⟨_, upd_same, ?_⟩, ?_⟩
          · rw [h2]
            rw [f2] at kT ⊢
            exact (hlg2.del).tk kT
          · rw [h2]
            exact SS.del
      rintro σ H3 ⟨rfl, e, k3, a1, a2, a3, a4, a5⟩
      refine ⟨_, rfl, .bl told, .ty "bool", _, _, true, rfl, .ty _, .base (.bl told), kit_ty (by decide +kernel), _, rfl, ?_⟩
      exact ⟨_, rfl, _, rfl, _, _, rfl, rfl, rfl, fin _ _ e rfl k3 a1 a2 a3 a4 a5⟩
    refine ⟨_, rfl, _, _, mo % 5, rfl, rfl, (by show (0 : Int) < 5; decide), rfl, rfl, _, rfl, iteI (fun _ => ?_) (fun _ => ?_)⟩
    · -- got
      obtain ⟨ml, el1, el2, el3⟩ := Mir.fnd_log O.ans key t 0 l
      have hkey := Mir.fnd_key KA key t 0 l SS
      refine ⟨fun σ H3 => σ = [some (.ref m), some (.ref D), some (.int way), some (.int mo), some key, some (.int fo), some (.int (ah : Nat)), none, some (gotV (Mir.fnd O.ans t key 0 l).1)] ∧ H3 = H1, ?_, ?_⟩
      · refine ⟨_, rfl, _, _, rfl, rfl, _, rfl, ?_⟩
        rcases hkey with ⟨A, B, h1, lo, hi, h2, h3⟩ | ⟨A, k, g, B, h1, he, lo, hi, h2, h3⟩
        · have hF' := hF
          rw [h1] at hF'
          obtain ⟨f1, f2⟩ := hF'.none lo hi
          refine iteD (fun z => ?_) (fun _ => ?_)
          · have z : fo ≥ 0 := z
            omega
          rw [h2]
          exact ⟨rfl, rfl⟩
        · have hF' := hF
          have hlg' := hlg1
          rw [h1] at hF' hlg'
          obtain ⟨f1, f2⟩ := hF'.some he
          refine iteD (fun _ => ?_) (fun z => absurd (show fo ≥ 0 by omega) z)
          obtain ⟨pt, hpt, hpt2⟩ := hlg'.at
          rw [h2]
          exact ⟨_, rfl, _, rfl, D, ms, fo, .ref pt, rfl, rfl, SqL.of hD1, by rw [f1]; exact atI_nat hpt, pt, [k, g], 1, g, rfl, rfl, SqT.of hpt2, rfl, rfl, rfl⟩
      rintro σ H3 ⟨rfl, rfl⟩
      refine ⟨_, rfl, _, rfl, O, m, dx, v, key, t, l, rfl, hm1, mq, ht1, hL1, hTD1, hk1, by omega, fun H2 kb hL2 => ?_⟩
      rw [el1] at hL2
      have ev : ∃ d, Dp K H2 (gotV (Mir.fnd O.ans t key 0 l).1) d ∧ SeqAt.shaped d = true := by
        rcases hkey with ⟨A, B, h1, lo, hi, h2, h3⟩ | ⟨A, k, g, B, h1, he, lo, hi, h2, h3⟩
        · rw [h2]
          exact ⟨_, .str _, shaped_of (by rw [PyData.canLay0]; decide +kernel) (by rw [PyData.depth]; decide)⟩
        · rw [h2]
          obtain ⟨i, hi⟩ := (hE (k, g) (by rw [h1]; simp)).2
          rw [show gotV (some (k, g)) = V.int i from hi]
          exact ⟨_, .int i, shaped_of rfl (by simp [PyData.depth])⟩
      obtain ⟨d, hd1, hd2⟩ := ev
      refine ⟨_, rfl, _, _, hd1, hd1, hd2, hd2, ?_⟩
      rw [SeqAt.eqv_refl d (SeqAt.canLay_of_shaped hd2)]
      exact hQ H2 t ml ⟨k1.trans (.of1 kb), ⟨v, kb.keep _ _ mq hm1, ht1.kb kb⟩, hL2, ⟨ms, kb.keep _ _ Dq hD1, hlg1.tk kb.tk⟩, SS, hB, fun z hz => ⟨(hE z hz).1.tk (k1.tk.trans kb.tk), (hE z hz).2⟩, by omega, el2, el3⟩
    · -- has
      obtain ⟨ml, el1, el2, el3⟩ := Mir.fnd_log O.ans key t 0 l
      have hkey := Mir.fnd_key KA key t 0 l SS
      refine ⟨_, rfl, m, dx, _, rfl, hm1, mfl_no _ _ (by decide +kernel) (by decide +kernel), _, rfl, O, m, dx, v, key, t, l, rfl, hm1, mq, ht1, hL1, hTD1, hk1, by omega, fun H2 kb hL2 => ?_⟩
      rw [el1] at hL2
      have e : (Mir.fnd O.ans t key 0 l).1.isSome = decide (fo ≥ 0) := by
        rcases hkey with ⟨A, B, h1, lo, hi, h2, h3⟩ | ⟨A, k, g, B, h1, he, lo, hi, h2, h3⟩
        · rw [h1] at hF
          obtain ⟨f1, f2⟩ := hF.none lo hi
          rw [h2, decide_eq_false (by omega)]
          rfl
        · rw [h1] at hF
          obtain ⟨f1, f2⟩ := hF.some he
          rw [h2, decide_eq_true (by omega)]
          rfl
      refine ⟨_, rfl, _, _, rfl, rfl, rfl, ?_⟩
      have h := hQ H2 t ml ⟨k1.trans (.of1 kb), ⟨v, kb.keep _ _ mq hm1, ht1.kb kb⟩, hL2, ⟨ms, kb.keep _ _ Dq hD1, hlg1.tk kb.tk⟩, SS, hB, fun z hz => ⟨(hE z hz).1.tk (k1.tk.trans kb.tk), (hE z hz).2⟩, by omega, el2, el3⟩
      rw [show V.bl true = V.bl (decide (V.bl (Mir.fnd O.ans t key 0 l).1.isSome = V.bl (decide (fo ≥ 0)))) from by rw [e, decide_eq_true rfl]] at h
      exact h
end
end Ord

set_option pp.deepTerms false
set_option pp.maxSteps 1500
namespace Ord
open PySem PySem.Spec PyProof.Rows L2 LamX
open Mir (Tr)
/-- a test, what it leaves named -/
def tCutT (t : TT) : TT := fun σ H Q => ∃ Pc : Bool → Hp → Prop, t σ H Pc ∧ ∀ c H1, Pc c H1 → Q c H1
theorem pt_cut {X : Cx} {e : Expr} {t : TT} (h : PT X e t) : PT X e (tCutT t) := ⟨fun pins s σ H Q I hh => by
  obtain ⟨Pc, h1, h2⟩ := hh
  exact thn (h.run pins s σ H Pc I h1) fun c s1 ⟨H1, I1, q⟩ => ⟨H1, I1, h2 _ _ q⟩⟩
def keysL (t : Tr V) : List V := (Mir.toL t).map (·.1)
theorem eqv_self {d : PyData} (h : SeqAt.shaped d = true) : PyData.eqv d d = true := SeqAt.eqv_refl d (SeqAt.canLay_of_shaped h)
theorem keysL_len (t : Tr V) : (keysL t).length = Mir.cnt t := by
  unfold keysL
  rw [List.length_map, Mir.cnt_len]
theorem srt_tk {way : Int} {H H' : Hp} {L : Lg} (el : ∀ z ∈ L, El (Ord.cnt H) z.1 H) (k : TK H H') (s : Mir.SSt (kyc way (Ord.cnt H)) L) : Mir.SSt (kyc way (Ord.cnt H')) L :=
  s.congr fun z hz => by
    show Mir.keyI way (Ord.cnt H' z.1) = Mir.keyI way (Ord.cnt H z.1)
    rw [((el z hz).tk k).1.cnt]
theorem srt_now {way : Int} {H' : Hp} {c : V → Int × Int} {L : Lg} (el : ∀ z ∈ L, El c z.1 H') (s : Mir.SSt (kyc way c) L) : Mir.SSt (kyc way (Ord.cnt H')) L :=
  s.congr fun z hz => by
    show Mir.keyI way (Ord.cnt H' z.1) = Mir.keyI way (c z.1)
    rw [(el z hz).1.cnt]
theorem MapH.kb {CM CN q f m : Addr} {H H' : Hp} {t : Tr V} (h : MapH CM CN q f H m t) (k : KB q H H') : MapH CM CN q f H' m t := by
  obtain ⟨dx, v, h1, h2⟩ := h.ob
  exact ⟨⟨dx, v, k.keep _ _ h.mq h1, h2.kb k⟩, h.mq, h.bal, el_tk h.el k.tk⟩
section
variable {X : Cx} {σ : L2.St} {H1 H2 H3 : Hp} {q m D : Addr}
theorem Lent.kb3 (L : Lent X σ H1 H2) (k : KB3 q m D H2 H3) : KB3 q m D H1 (strip X.env.cells H3) := by
  have nc : ∀ b o, H1 b = some o → b ∉ X.env.cells.map (·.2) := fun b o e hb => by
    rw [L.none_ b hb] at e
    cases e
  exact ⟨fun b o n n2 n3 e => by rw [strip_out (nc b o e)]; exact k.keep b o n n2 n3 (L.keep e), fun b xs e => by rw [strip_out (nc b _ e)]; exact k.tk b xs (L.keep e)⟩
theorem Lent.fz3 (L : Lent X σ H1 H2) (hq : H1 q ≠ none) (hm : H1 m ≠ none) (hD : H1 D ≠ none) (k : KB3 q m D H2 H3) {b : Addr} (hb : b ∈ X.env.cells.map (·.2)) : ∃ o, H3 b = some (Fz o) := by
  obtain ⟨o, v, e, _⟩ := L.fz b hb
  exact ⟨o, k.keep b _ (fun z => hq (by rw [← z]; exact L.none_ b hb)) (fun z => hm (by rw [← z]; exact L.none_ b hb)) (fun z => hD (by rw [← z]; exact L.none_ b hb)) e⟩
theorem Lent.atD (L : Lent X σ H1 H2) (hq : H1 q ≠ none) (hm : H1 m ≠ none) (hD : H1 D ≠ none) (k : KB3 q m D H2 H3) {b : Addr} {o : HO} (e : H3 b = some o) (n : ∀ ob, o ≠ Fz ob) : strip X.env.cells H3 b = some o := by
  have hb : b ∉ X.env.cells.map (·.2) := fun hb => by
    obtain ⟨ob, e'⟩ := L.fz3 hq hm hD k hb
    rw [e] at e'
    exact n ob (Option.some.inj e')
  rw [strip_out hb]
  exact e
theorem EK.kb3 {H H' : Hp} (k : KB3 q m D H H') (hq : ∀ u xs, H q ≠ some (.frz u (.lst xs))) (hm : ∀ u xs, H m ≠ some (.frz u (.lst xs))) (hD : ∀ u xs, H D ≠ some (.frz u (.lst xs))) : EK H H' := fun b u xs e => k.keep _ _ (fun z => hq u xs (by rw [← z]; exact e)) (fun z => hm u xs (by rw [← z]; exact e)) (fun z => hD u xs (by rw [← z]; exact e)) e
end
theorem HeldS.lent3 {X : Cx} {σ : L2.St} {H8 H9 H10 : Hp} {K : PySem.W.Frag} {sc : Addr} {ns : List V} {q f c' m D CM dx : Addr} {ob : Obj} {qn : Str} {es : List V} {c : V → Int × Int} {l l' : Lg} {fs : List (Str × V)} {ds : List V} (h : HeldS K sc ns q f c' ob qn [] es c l H8) (hm : H8 m = some (.ins CM dx fs)) (hD : H8 D = some (.lst ds)) (L : Lent X σ H8 H9) (kb : KB3 q m D H9 H10) (n : ∃ qs, H10 q = some (.lst qs) ∧ LogAt H10 qs l') : HeldS K sc ns q f c' ob qn [] es c l' (strip X.env.cells H10) := by
  obtain ⟨q0, h1, _⟩ := h.1.hq
  obtain ⟨qs, h2, h3⟩ := n
  have kbF := L.kb3 kb
  have at3 := fun {b : Addr} {o : HO} => L.atD (b := b) (o := o) (some_nn h1) (some_nn hm) (some_nn hD) kb
  have fq : f ≠ q := fun z => by
    have e := h.1.hf
    rw [z, h1] at e
    cases e
  have fm : f ≠ m := fun z => by
    have e := h.1.hf
    rw [z, hm] at e
    cases e
  have fD : f ≠ D := fun z => by
    have e := h.1.hf
    rw [z, hD] at e
    cases e
  have cq : c' ≠ q := code_ne h1 h.1.hc
  have cD : c' ≠ D := code_ne hD h.1.hc
  have cm : c' ≠ m := fun z => by
    have e := h.1.hc
    rw [z, hm] at e
    exact absurd (Option.some.inj e).symm (by unfold CodeO; intro y; cases y)
  exact ⟨⟨⟨qs, at3 h2 lst_fz, h3.tk fun b xs e => at3 e tup_fz⟩, kbF.keep _ _ fq fm fD h.1.hf, kbF.keep _ _ cq cm cD h.1.hc, fun p hp => (by cases hp), h.1.el.tk kbF.tk⟩, h.2.ek (EK.kb3 kbF (lst_nfl h1) (ins_nfl hm) (lst_nfl hD))⟩
section
variable {P : Program} {w : World} {K : PySem.W.Frag} {mg : Str → Option Value} {base : Heap} {CN CM CE CP : Addr}
def N_law : List Str := ["_law_script", "_law_way", "_law_spread", "_law_asked", "_law_tree", "_law_model", "_law_k", "_law_more", "_law_key", "_law_one", "_law_keys", "_law_other", "_law_place", "_law_due"]
theorem sc_law : FnScope ["_law_script", "_law_way", "_law_spread", "_law_asked", "_law_tree", "_law_model", "_law_k", "_law_more", "_law_key", "_law_one", "_law_keys", "_law_other", "_law_place", "_law_due"] ["_law_script"] (defScope st_law) := ⟨rfl, rfl, rfl, by decide +kernel, rfl, by decide +kernel, by decide +kernel⟩
def qlam : Str := "law.<locals>.<lambda>"
def spLaw (K : PySem.W.Frag) (Pt : Addr) : Sp := fun vs H Q _ => ∃ (a : Addr) (ns : List Int), vs = [.ref a] ∧ SqL K H a (ns.map V.int) ∧ ns.length ≤ 63 ∧ H Pt = some (.tbl #[]) ∧ ∀ H', Q (.bl true) H'
def spLawF (K : PySem.W.Frag) (Pt : Addr) : Sp := fun vs H Q _ => ∃ (a : Addr) (ns : List Int), vs = [.ref a] ∧ SqF K H a (ns.map V.int) ∧ ns.length ≤ 63 ∧ H Pt = some (.tbl #[]) ∧ ∀ H', Q (.bl true) H'
theorem ok_lawF {c Pt : Addr} (d_law : Df K mg "law" st_law ["_law_script"]) (d_level_of : Df K mg "level_of" st_level_of ["node"]) (d_many_of : Df K mg "many_of" st_many_of ["node"]) (d_lean : Df K mg "lean" st_lean ["node"]) (d_right_up : Df K mg "right_up" st_right_up ["node"]) (d_left_up : Df K mg "left_up" st_left_up ["node"]) (d_even : Df K mg "even" st_even ["key", "held", "left", "right"]) (d_with_key : Df K mg "with_key" st_with_key ["node", "key", "held", "order"]) (d_without_first : Df K mg "without_first" st_without_first ["node"]) (d_joined : Df K mg "joined" st_joined ["left", "right"]) (d_without_key : Df K mg "without_key" st_without_key ["node", "key", "order"]) (d__law_cell : Df K mg "_law_cell" st__law_cell ["_law_script", "_law_k"]) (d__law_drawn : Df K mg "_law_drawn" st__law_drawn ["_law_cell_here", "_law_k"]) (d__law_answer : Df K mg "_law_answer" st__law_answer ["_law_way", "_law_one", "_law_other"]) (d__law_ask : Df K mg "_law_ask" st__law_ask ["_law_asked", "_law_way", "_law_one", "_law_other"]) (d__law_log : Df K mg "_law_log" st__law_log ["_law_many"]) (d__law_find : Df K mg "_law_find" st__law_find ["_law_model", "_law_key", "_law_way"]) (d__law_got : Df K mg "_law_got" st__law_got ["_law_tree", "_law_key"]) (d__law_at : Df K mg "_law_at" st__law_at ["_law_tree", "_law_place"]) (d__law_deed : Df K mg "_law_deed" st__law_deed ["_law_tree", "_law_model", "_law_way", "_law_more", "_law_key"]) (d_Node : Di K mg CN "Node" "Node.__init__" st_Node___init__ ["self", "key", "held", "left", "right"]) (d_Map : Di K mg CM "Map" "Map.__init__" st_Map___init__ ["self", "order"]) (d_Map_size : Dm K CM "size" "Map.size" st_Map_size ["self"]) (d_Map_put : Dm K CM "put" "Map.put" st_Map_put ["self", "key", "held"]) (d_Map_drop : Dm K CM "drop" "Map.drop" st_Map_drop ["self", "key"]) (d_Map_found : Dm K CM "found" "Map.found" st_Map_found ["self", "key"]) (d_Map_get : Dm K CM "get" "Map.get" st_Map_get ["self", "key"]) (d_Map_has : Dm K CM "has" "Map.has" st_Map_has ["self", "key"]) (d_Map_rank : Dm K CM "rank" "Map.rank" st_Map_rank ["self", "key"]) (d_Map_at : Dm K CM "at" "Map.at" st_Map_at ["self", "place"]) (d_Map_pairs : Dm K CM "pairs" "Map.pairs" st_Map_pairs ["self"]) (TN : NodeT K CN) (TM : MapT K CM) (TE : ExcT K mg "NoElement" CE) (TP : ExcT K mg "NoPlace" CP)
    (mLen : mg "len" = none) (mInt : mg "int" = none) (mAbs : mg "abs" = none) (mMax : mg "max" = none) (mRange : mg "range" = none) (mAll : mg "all" = none) (mIsi : mg "isinstance" = none) (mBool : mg "bool" = none)
    (TB : TabB base mg c Pt) (hc : d_law.fd.code = .ref c) : FnOk P w K mg base CX0 40 d_law.f d_law.fd ["_law_script"] (spLawF K Pt) := by
  have G__law_cell : FnOk P w K mg base CX0 1 d__law_cell.f d__law_cell.fd ["_law_script", "_law_k"] (spCellK K) := ok_cell d__law_cell mLen
  have G__law_drawn : FnOk P w K mg base CX0 1 d__law_drawn.f d__law_drawn.fd ["_law_cell_here", "_law_k"] spDrawn := ok_drawn d__law_drawn
  have G__law_ask : FnOk P w K mg base CX0 2 d__law_ask.f d__law_ask.fd ["_law_asked", "_law_way", "_law_one", "_law_other"] spAskK := ok_ask d__law_ask d__law_answer mInt mAbs
  have G__law_log : FnOk P w K mg base CX0 1 d__law_log.f d__law_log.fd ["_law_many"] spLog := ok_log d__law_log
  have G__law_find : FnOk P w K mg base CX0 2 d__law_find.f d__law_find.fd ["_law_model", "_law_key", "_law_way"] (spFind K) := ok_find d__law_find d__law_answer mLen mInt mAbs mRange
  have G__law_at : FnOk P w K mg base CX0 4 d__law_at.f d__law_at.fd ["_law_tree", "_law_place"] (spLawAt CM CN) := ok_lawAt d__law_at d_Map_at d_Map_size d_many_of TN TM TP
  have G__law_deed : FnOk P w K mg base CX0 34 d__law_deed.f d__law_deed.fd ["_law_tree", "_law_model", "_law_way", "_law_more", "_law_key"] (spDeed P w K mg base CM CN) := ok_deed d__law_deed d__law_find d__law_answer d__law_got d_Map_put d_Map_drop d_Map_get d_Map_has d_Map_found d_with_key d_without_key d_joined d_without_first d_even d_lean d_right_up d_left_up d_Node d_level_of d_many_of TN TM TE mLen mInt mAbs mRange mMax mIsi mBool
  have G_Map : FnOk P w K mg base CX0 1 d_Map.f d_Map.fd ["self", "order"] (spMapI CM) := ok_Map d_Map TM
  have G_Map_size : FnOk P w K mg base CX0 2 d_Map_size.f d_Map_size.fd ["self"] (spSizeM CM CN) := ok_size_m d_Map_size d_many_of TN TM
  have G_Map_rank : FnOk P w K mg base CX0 5 d_Map_rank.f d_Map_rank.fd ["self", "key"] (spRank P w K mg base CM CN) := ok_rank d_Map_rank d_Map_found d_many_of TN TM
  have G_Map_pairs : FnOk P w K mg base CX0 5 d_Map_pairs.f d_Map_pairs.fd ["self"] (spPairs CM CN) := ok_pairs d_Map_pairs d_Map_at d_Map_size d_many_of TN TM mRange
  refine Fun.okc d_law.F hc sc_law (fun vs H Q E h => ?_) (fun A outer s H vs Q E hr h => ?_)
  · obtain ⟨a, ns, rfl, _⟩ := h
    rfl
  · obtain ⟨a, ns, rfl, hS, hz, hP, hQ⟩ := h
    have nd := sc_law.nd
    obtain ⟨X, eX⟩ : ∃ X, X = (cxOf CX0 P w K mg base N_law "law" (defScope st_law) d_law.f (.ref c) A outer s H E).nox := ⟨_, rfl⟩
    have un : UniqC X.env.cells := by
      rw [eX]
      exact uniq_cells (by decide +kernel)
    have hfn : ∀ x, X.fn x = true := by
      rw [eX]
      exact fun _ => rfl
    subst eX
    refine ⟨_, (pss_cons (ps_set (i := 1) nd rfl (Or.inr rfl) (pe_op op_modE (pe_cd (d := d__law_drawn) G__law_drawn (hr.mono (by decide)) (pa_cons (pe_cd (d := d__law_cell) G__law_cell (hr.mono (by decide)) (pa_cons (pv 0) (pa_cons pe_int pa_nil))) (pa_cons pe_int pa_nil))) pe_int))
  (pss_cons (ps_set (i := 2) nd rfl (Or.inl rfl) (pe_ix ix_list (pe_lst (pa_cons pe_int (pa_cons pe_int (pa_cons pe_int (pa_cons pe_int pa_nil))))) (pe_op op_modE (pe_op op_fdivE (pe_cd (d := d__law_drawn) G__law_drawn (hr.mono (by decide)) (pa_cons (pe_cd (d := d__law_cell) G__law_cell (hr.mono (by decide)) (pa_cons (pv 0) (pa_cons pe_int pa_nil))) (pa_cons pe_int pa_nil))) pe_int) pe_int) (fun _ _ => rfl)))
  (pss_cons (ps_set (i := 3) nd rfl (Or.inr rfl) (pe_lst pa_nil))
  (pss_cons (ps_set (i := 4) nd rfl (Or.inl rfl) (pe_mk (d := d_Map) G_Map (hr.mono (by decide)) (pa_cons (pe_lam (T := [(Pt, qlam)]) (q := qlam) (show ("law.<locals>." : Str) ++ "<lambda>" = qlam by decide +kernel) TB rfl (List.mem_singleton.mpr rfl) (fun p hp _ => by rw [List.mem_singleton.mp hp]) rfl (NdefX.ndef_free (sc := defScope st_law) (fr := ["_law_asked", "_law_way"]) (by decide +kernel))) pa_nil)))
  (pss_cons (ps_set (i := 5) nd rfl (Or.inl rfl) (pe_lst pa_nil))
  (pss_cons (ps_for PassesOwn.never rfl (pi_range1 (by rfl) mRange (pa_cons (pe_ix ix_list (pe_lst (pa_cons (pe_op op_modE (pe_len mLen (pv 0)) pe_int) (pa_cons pe_int pa_nil))) (pe_op op_modE (pe_cd (d := d__law_drawn) G__law_drawn (hr.mono (by decide)) (pa_cons (pe_cd (d := d__law_cell) G__law_cell (hr.mono (by decide)) (pa_cons (pv 0) (pa_cons pe_int pa_nil))) (pa_cons pe_int pa_nil))) pe_int) (fun _ _ => rfl)) pa_nil)) (pg_name (i := 6) nd rfl (Or.inl rfl))
    (pss_cons (ps_set (i := 7) nd rfl (Or.inl rfl) (pe_cd (d := d__law_drawn) G__law_drawn (hr.mono (by decide)) (pa_cons (pe_cd (d := d__law_cell) G__law_cell (hr.mono (by decide)) (pa_cons (pv 0) (pa_cons (pv 6) pa_nil))) (pa_cons (pv 6) pa_nil))))
  (pss_cons (ps_set (i := 8) nd rfl (Or.inr rfl) (pe_tup (pa_cons (pe_op op_modE (pe_op op_fdivE (pv 7) pe_int) (pv 2)) (pa_cons (pv 6) pa_nil))))
  (pss_cons (ps_set (i := 10) nd rfl (Or.inr rfl) (pe_lc (own := [("_law_one", 9)]) (g := gName 9) rfl nd (pi_list (pv 5)) (blkOk_by (own := [("_law_one", 9)]) (N := N_law) (sc := defScope st_law) (by decide +kernel)) (fun _ _ _ _ _ => pg_name (i := 9) nd rfl (Or.inl rfl)) (fun _ _ _ _ _ => pts_nil) (fun _ _ _ _ _ => (pe_ix (ix_tupK (K := K)) (pv 9) pe_int (fun _ _ => rfl)))))
  (pss_cons (ps_expr (pe_bm0 PySem.F.plainAttrs_list PySem.F.slot_list_clear PySem.F.type_list_clear mt_clear (pv 3)))
  (pss_cons (ps_if (pt_not (pt_val (pe_cdLent (d := d__law_deed) G__law_deed (hr.mono (by decide)) un hfn (pa_cons (pv 4) (pa_cons (pv 5) (pa_cons (pv 1) (pa_cons (pv 7) (pa_cons (pv 8) pa_nil))))))))
    (pss_one (ps_ret pe_bl))
    pss_nil)
  (pss_cons (ps_if (pt_cmpR op_gt (pe_len mLen (pv 3)) (pe_op op_addE (pe_op op_mulE pe_int (pe_cd (d := d__law_log) G__law_log (hr.mono (by decide)) (pa_cons (pe_op op_addE (pe_len mLen (pv 10)) pe_int) pa_nil))) pe_int) (nomark _))
    (pss_one (ps_ret pe_bl))
    pss_nil)
  (pss_cons (ps_if (pt_not (pt_val (pe_callB (cr_all rfl) (by rfl) mAll (by decide +kernel) (pa_cons (pe_lc (own := [("_law_one", 9), ("_law_other", 11)])  rfl nd (pi_list (pv 3)) (blkOk_by (own := [("_law_one", 9), ("_law_other", 11)]) (N := N_law) (sc := defScope st_law) (by decide +kernel)) (fun _ _ _ _ _ => pg_tupK (K := K) (n := 2) (by rfl) (pgs_cons (pg_name (i := 9) nd rfl (Or.inl rfl)) (pgs_cons (pg_name (i := 11) nd rfl (Or.inl rfl)) pgs_nil))) (fun _ _ _ _ _ => pts_nil) (fun _ _ _ _ _ => (pe_and (pe_cmpR (op_inDK (K := K) (hu65 hr)) (pv 9) (pv 10) (by rfl)) (pe_one (pe_cmpR (op_eqDK (K := K) hr.units) (pv 11) (pv 8) (nomark _)))))) pa_nil))))
    (pss_one (ps_ret pe_bl))
    pss_nil)
  (pss_cons (ps_expr (pe_bm0 PySem.F.plainAttrs_list PySem.F.slot_list_clear PySem.F.type_list_clear mt_clear (pv 3)))
  (pss_cons (ps_set (i := 12) nd rfl (Or.inl rfl) (pe_op op_subE (pe_op op_modE (pe_op op_fdivE (pv 7) pe_int) pe_int) pe_int))
  (pss_cons (ps_set (i := 13) nd rfl (Or.inl rfl) pe_str)
  (C8.pss_cut (ps_if (pt_chain op_le op_lt pe_int (pv 12) (pe_len mLen (pv 5)))
    (pss_one (ps_set (i := 13) nd rfl (Or.inl rfl) (pe_ix ix_list (pv 5) (pv 12) (fun _ _ => rfl))))
    pss_nil)
  (pss_cons (ps_if (pt_cut (PW.pt (pw_or (pt_cmpR op_ne (pe_md0 (d := d_Map_size) TM.cl G_Map_size (hr.mono (by decide)) (pv 4)) (pe_len mLen (pv 5)) (nomark _)) (pw_or (pt_cmpR (op_neD hr.units) (pe_cd (d := d__law_at) G__law_at (hr.mono (by decide)) (pa_cons (pv 4) (pa_cons (pv 12) pa_nil))) (pv 13) (nomark _)) (pw_or1 (PW.pt (pw_and (pt_cmpR op_eq (pe_op op_modE (pe_op op_fdivE (pv 7) pe_int) pe_int) pe_int (nomark _)) (pw_and1 (pt_cmpR (op_neD hr.units) (pe_md0 (d := d_Map_pairs) TM.cl G_Map_pairs (hr.mono (by decide)) (pv 4)) (pv 5) (nomark _))))))))))
    (pss_one (ps_ret pe_bl))
    pss_nil)
  (pss_cons (ps_if (pt_cmpR (op_neD hr.units) (pv 3) (pe_lst pa_nil) (nomark _))
    (pss_one (ps_ret pe_bl))
    pss_nil)
  (pss_one (ps_if (PW.pt (pw_or (pt_cmpR op_ne (pe_mdLent (d := d_Map_rank) TM.cl G_Map_rank (hr.mono (by decide)) un hfn (pv 4) (pa_cons (pv 8) pa_nil)) (pe_ix ix_tup (pe_cd (d := d__law_find) G__law_find (hr.mono (by decide)) (pa_cons (pv 5) (pa_cons (pv 8) (pa_cons (pv 1) pa_nil)))) pe_int (fun _ _ => rfl)) (nomark _)) (pw_or1 (pt_cmpR op_gt (pe_len mLen (pv 3)) (pe_op op_addE (pe_op op_mulE pe_int (pe_cd (d := d__law_log) G__law_log (hr.mono (by decide)) (pa_cons (pe_op op_addE (pe_len mLen (pv 5)) pe_int) pa_nil))) pe_int) (nomark _)))))
    (pss_one (ps_ret pe_bl))
    pss_nil))))))))))))))))
  (pss_one (ps_ret (pe_cmpR (op_eqD hr.units) (pe_md0 (d := d_Map_pairs) TM.cl G_Map_pairs (hr.mono (by decide)) (pv 4)) (pv 5) (nomark _)))))))))), ?_⟩
    have hz' : ns.length ≤ 1000 := by omega
    have elen : ((ns.map V.int).length) = ns.length := List.length_map _
    -- way
    refine ⟨_, rfl, a, ns, 0, rfl, hS.sq, hz', fun H0 s0 => ⟨_, 1, rfl, ?_⟩⟩
    obtain ⟨way, ew⟩ : ∃ way, way = Mir.drawn (Mir.cellI ns 0) 1 % 6 := ⟨_, rfl⟩
    refine ⟨_, _, way, rfl, rfl, (by show (0 : Int) < 6; decide), ew, ?_⟩
    -- spread
    refine ⟨by show 4 ≤ sizeLine; decide, fun lp nlp => ?_⟩
    have s01 := s0.trans (Same.new (o := .lst [.int 3, .int 12, .int 40, .int 1000]) nlp)
    refine ⟨_, rfl, a, ns, 0, rfl, (hS.ek (EK.same s01)).sq, hz', fun H1 s1 => ⟨_, 1, rfl, ?_⟩⟩
    have hlp : H1 lp = some (.lst [.int 3, .int 12, .int 40, .int 1000]) := s1 _ _ upd_same
    have s02 := s01.trans s1
    have hdn := Mir.drawn_nn (Mir.cellI ns 0) 1
    obtain ⟨r, hr4, er⟩ : ∃ r : Nat, r < 4 ∧ Mir.drawn (Mir.cellI ns 0) 1 / 8 % 4 = (r : Int) := ⟨(Mir.drawn (Mir.cellI ns 0) 1 / 8 % 4).toNat, by omega, by omega⟩
    obtain ⟨sp, esp, hsp0, hsp1⟩ : ∃ sp : Int, atI [V.int 3, V.int 12, V.int 40, V.int 1000] (r : Int) = some (.int sp) ∧ 0 < sp ∧ sp ≤ 1000 := by
      have hh : r = 0 ∨ r = 1 ∨ r = 2 ∨ r = 3 := by omega
      rcases hh with h | h | h | h <;> subst h
      · exact ⟨3, rfl, by decide, by decide⟩
      · exact ⟨12, rfl, by decide, by decide⟩
      · exact ⟨40, rfl, by decide, by decide⟩
      · exact ⟨1000, rfl, by decide, by decide⟩
    refine ⟨_, _, _, rfl, rfl, ⟨by decide, by decide⟩, rfl, _, _, (r : Int), rfl, rfl, (by show (0 : Int) < 4; decide), er.symm, lp, _, _, _, rfl, rfl, SqL.of hlp, esp, ?_⟩
    -- asked, the map
    refine ⟨Nat.zero_le _, fun q nq => ?_⟩
    have sA : Same H (upd H1 q (.lst [])) := s02.trans (Same.new nq)
    have hq0 : upd H1 q (.lst []) q = some (.lst []) := upd_same
    refine ⟨fun p hp => by rw [List.mem_singleton.mp hp]; exact TabS.nil (sA _ _ hP), fun f c' pm ctv H8 ext nn T8 f0 f8 c8 => ?_⟩
    intro m0 dx0 nm0 ndx0 nex0
    refine ⟨m0, dx0, f, rfl, upd_same, fun H9 kp9 hm9 => ⟨rfl, ?_⟩⟩
    have s9 : Same H8 H9 := fun b o e => kp9 b o (ne_of_none e nm0) (by rw [upd_ne (ne_of_none e nm0), upd_ne (ne_of_none e ndx0)]; exact e)
    have hq9 : H9 q = some (.lst []) := s9 _ _ (ext _ _ hq0 lst_tbl)
    have mq0 : m0 ≠ q := fun z => by
      rw [z, hq9] at hm9
      cases hm9
    let mkO : (V → Int × Int) → Orc P w K mg base := fun cc => orcAt f8 ["_law_one", "_law_other"] ["_law_asked", "_law_way"] [some (.ref q), some (.int way)] (fun _ x y => Mir.ansI way (cc x) (cc y)) (El cc) (NdefX.nscope_by (by decide +kernel)) rfl rfl
      (fun us hl => match us, hl with | [_, _], _ => rfl) (fun k h => h.tk k)
      (fun A outer s H0 hr => pe_cd (d := d__law_ask) G__law_ask hr (pa_cons (pv 2) (pa_cons (pv 3) (pa_cons (pv 0) (pa_cons (pv 1) pa_nil)))))
      (fun x y l qs H Q h1 h2 h3 dx dy hQ => ⟨_, rfl, _, rfl, _, rfl, _, rfl, q, way, x, y, cc x, cc y, qs, rfl, h1, by have := h2.length; omega, dx.1, dy.1, dx.2.1, dy.2.1, hQ⟩)
    have h9 : HeldS K a (ns.map V.int) q f c' _ _ [] [] (fun _ => ((0, 0) : Int × Int)) [] H9 := ⟨⟨⟨[], hq9, .nil⟩, s9 _ _ f8, s9 _ _ c8, fun p hp => (by cases hp), fun x hx => by cases hx⟩, ((hS.ek (EK.same sA)).ext ext).ek (EK.same s9)⟩
    have hM9 : MapH CM CN q f H9 m0 .lf := ⟨⟨dx0, .non, hm9, rfl⟩, mq0, True.intro, fun z hz => by cases hz⟩
    obtain ⟨ob, qn, eob, eqn, ha⟩ := heldS_ex h9
    clear h9 hm9 hq9 s9 kp9 nm0 ndx0 nex0 c8 f0 T8 nn ext hq0 sA nq s02 s1 hlp s01 nlp s0 hS hP
    -- the model
    refine ⟨Nat.zero_le _, fun D nD => ?_⟩
    have Dq : D ≠ q := ha.1.nq nD
    have hb := ha.same (Same.new (o := .lst []) nD)
    have hMb := hM9.same (Same.new (o := .lst []) nD)
    have hDb : upd H9 D (.lst []) D = some (.lst []) := upd_same
    obtain ⟨H1, e1⟩ : ∃ Z, Z = upd H9 D (.lst []) := ⟨_, rfl⟩
    rw [← e1] at hb hMb hDb ⊢
    clear e1 nD ha hM9
    -- the loop
    refine ⟨_, rfl, a, _, rfl, .inl hb.2.sq, _, _, ((ns.length % 41 : Nat) : Int), rfl, rfl, (by show (0 : Int) < 41; decide), (by show ((ns.length % 41 : Nat) : Int) = ((ns.map V.int).length : Int) % 41; rw [elen]; omega), ?_⟩
    refine ⟨by show 2 ≤ sizeLine; decide, fun lp nlp => ?_⟩
    have s1 := Same.new (o := .lst [.int ((ns.length % 41 : Nat) : Int), .int 40]) nlp
    refine ⟨_, rfl, a, ns, 0, rfl, (hb.same s1).2.sq, hz', fun H2 s2 => ⟨_, 2, rfl, ?_⟩⟩
    have hlp : H2 lp = some (.lst [.int ((ns.length % 41 : Nat) : Int), .int 40]) := s2 _ _ upd_same
    have s12 := s1.trans s2
    have hb2 := hb.same s12
    have hMb2 := hMb.same s12
    have hDb2 := s12 _ _ hDb
    clear hDb hb hMb s12 s2 s1 nlp
    have hd2 := Mir.drawn_nn (Mir.cellI ns 0) 2
    obtain ⟨r2, hr2, er2⟩ : ∃ r : Nat, r < 2 ∧ Mir.drawn (Mir.cellI ns 0) 2 % 2 = (r : Int) := ⟨(Mir.drawn (Mir.cellI ns 0) 2 % 2).toNat, by omega, by omega⟩
    obtain ⟨nk, enk, hnk⟩ : ∃ nk : Nat, atI [V.int ((ns.length % 41 : Nat) : Int), V.int 40] (r2 : Int) = some (.int (nk : Nat)) ∧ nk ≤ 40 := by
      have hh : r2 = 0 ∨ r2 = 1 := by omega
      rcases hh with h | h <;> subst h
      · exact ⟨ns.length % 41, rfl, by omega⟩
      · exact ⟨40, rfl, by decide⟩
    refine ⟨_, _, (r2 : Int), rfl, rfl, (by show (0 : Int) < 2; decide), er2.symm, lp, _, _, _, rfl, rfl, SqL.of hlp, enk, ?_⟩
    refine ⟨(nk : Int), rfl, by omega, by omega, ?_⟩
    refine for_range (lo := 0) (n := (nk : Int).toNat) (fun i σ H' => ∃ (t : Tr V) (l : Lg) (ms : List V) (v6 v7 v8 v10 v12 v13 : Option V), σ = [some (.ref a), some (.int way), some (.int sp), some (.ref q), some (.ref m0), some (.ref D), v6, v7, v8, none, v10, none, v12, v13] ∧ HeldS K a (ns.map V.int) q f c' ob qn [] [] (fun _ => ((0, 0) : Int × Int)) l H' ∧ MapH CM CN q f H' m0 t ∧ H' D = some (.lst ms) ∧ LogAt H' ms (Mir.toL t) ∧ Mir.SSt (kyc way (Ord.cnt H')) (Mir.toL t) ∧ Mir.cnt t ≤ i)
      ⟨.lf, [], [], none, none, none, none, none, none, rfl, hb2, hMb2, hDb2, .nil, List.Pairwise.nil, Nat.le_refl _⟩ ?_ ?_
    · clear hb2 hMb2 hDb2 hlp
      rintro i σ H3 hi ⟨t, l, ms, v6, v7, v8, v10, v12, v13, rfl, hd, hM, hDD, hlgD, hSS, cn⟩
      rw [show ((0 : Int) + (i : Nat)) = ((i : Nat) : Int) from Int.zero_add _]
      refine ⟨_, rfl, _, rfl, a, ns, i, rfl, hd.2.sq, hz', fun H4 s4 => ⟨_, rfl, _, i, rfl, ?_⟩⟩
      obtain ⟨mo, emo⟩ : ∃ mo, mo = Mir.drawn (Mir.cellI ns i) i := ⟨_, rfl⟩
      have hmo := Mir.drawn_nn (Mir.cellI ns i) i
      rw [← emo] at hmo ⊢
      -- the key
      obtain ⟨kv, ekv⟩ : ∃ kv, kv = mo / 64 % sp := ⟨_, rfl⟩
      have hkv0 : 0 ≤ kv := by
        rw [ekv]
        exact Int.emod_nonneg _ (by omega)
      have hkv1 : kv < sp := by
        rw [ekv]
        exact Int.emod_lt_of_pos _ hsp0
      refine ⟨_, rfl, _, _, mo / 64, rfl, rfl, ⟨by decide, by decide⟩, rfl, _, rfl, _, _, kv, rfl, rfl, hsp0, ekv, _, rfl, by show 2 ≤ sizeLine; decide, fun kt nkt => ?_⟩
      have hk5 : upd H4 kt (.tup [.int kv, .int (i : Int)]) kt = some (.tup [.int kv, .int (i : Int)]) := upd_same
      have s5 := s4.trans (Same.new (o := .tup [.int kv, .int (i : Int)]) nkt)
      obtain ⟨H5, e5⟩ : ∃ H5, H5 = upd H4 kt (.tup [.int kv, .int (i : Int)]) := ⟨_, rfl⟩
      rw [← e5] at hk5 s5 ⊢
      clear e5 nkt s4
      -- the keys
      have hD5 := s5 _ _ hDD
      have hlg5 := hlgD.tk (Same.tk s5)
      have lms := hlgD.length
      rw [← Mir.cnt_len] at lms
      refine ⟨_, rfl, D, rfl, ⟨_, SqL.of hD5⟩, fun kl nkl => ?_⟩
      refine lc_list (K := K) (a := D) (xs := ms) (fun j H' => Same H5 H' ∧ H' kl = some (.lst ((keysL t).take j))) ⟨Same.new nkl, upd_same⟩ (fun j H' _ h => SqL.of (h.1 _ _ hD5)) ?_ ?_
      · rintro j x H' hj ⟨s6, h6⟩
        obtain ⟨z, hz1, tq, rfl, htq⟩ := LogAt.get hlg5 hj
        have hjl : j < ms.length := (List.getElem?_eq_some_iff.mp hj).1
        refine ⟨rfl, ?_⟩
        refine ⟨_, rfl, tq, [z.1, z.2], 0, z.1, rfl, rfl, SqT.of (s6 _ _ htq), rfl, ?_⟩
        refine ⟨_, h6, small1000 (by rw [List.length_take]; omega), fun b o e => ?_, ?_⟩
        · rw [upd_ne (ne_of_none e nkl)]
          exact s6 _ _ e
        · rw [upd_same, List.take_add_one, show (keysL t)[j]? = some z.1 from by unfold keysL; rw [List.getElem?_map, hz1]; rfl]
          rfl
      rintro H6 ⟨s6, hkl⟩
      have hkl : H6 kl = some (.lst ((keysL t).take ms.length)) := hkl
      rw [List.take_of_length_le (by rw [keysL_len]; omega)] at hkl
      have s56 := s5.trans s6
      have hd6 := hd.same s56
      have hM6 := hM.same s56
      have hD6 := s56 _ _ hDD
      have hlg6 := hlgD.tk (Same.tk s56)
      have hk6 := s6 _ _ hk5
      have hS6 := srt_tk (fun z hz => (hM.el z hz).1) (Same.tk s56) hSS
      have klq : kl ≠ q := (hd.same s5).1.nq nkl
      have klD : kl ≠ D := (ne_of_none hD5 nkl).symm
      clear s56 s6 nkl hlg5 hD5 s5 hk5 hd hM hDD hlgD hSS
      -- clear
      obtain ⟨qs0, hq0, lg0⟩ := hd6.1.hq
      refine ⟨_, rfl, .inl ⟨rfl, _, SqL.of hq0⟩, q, qs0, rfl, rfl, hq0, ?_⟩
      have kT : TK H6 (upd H6 q (.lst [])) := TK.wr hq0 nf_lst
      have hf := hd6.wr (qs := []) .nil
      have hM7 := hM6.wr (ys := []) hq0
      have hD7 : upd H6 q (.lst []) D = some (.lst ms) := (upd_ne Dq).trans hD6
      have hlg7 := hlg6.tk kT
      have hkl7 : upd H6 q (.lst []) kl = some (.lst (keysL t)) := (upd_ne klq).trans hkl
      have hk7 := kT _ _ hk6
      have hS7 := srt_tk (fun z hz => (hM6.el z hz).1) kT hS6
      have hq7 : upd H6 q (.lst []) q = some (.lst []) := upd_same
      obtain ⟨H7, e7⟩ : ∃ Z, Z = upd H6 q (.lst []) := ⟨_, rfl⟩
      rw [← e7] at hf hM7 hD7 hlg7 hkl7 hk7 hS7 hq7 ⊢
      clear e7 kT hq0 lg0 qs0 hk6 hS6 hkl hlg6 hD6 hM6 hd6
      have kE : El (Ord.cnt H7) (.ref kt) H7 := by
        have h : Pr H7 (.ref kt) (kv, (i : Int)) := ⟨kt, rfl, hk7⟩
        have e2 := h.cnt
        exact ⟨by rw [e2]; exact h, by rw [e2]; exact Sn.of (by show _ ≤ kv; omega) (by show kv ≤ _; omega), by rw [e2]; exact Sn.of (by show _ ≤ (i : Int); omega) (by show (i : Int) ≤ _; omega)⟩
      obtain ⟨cc, ecc⟩ : ∃ cc, cc = Ord.cnt H7 := ⟨_, rfl⟩
      have hE7 := hM7.el
      rw [← ecc] at kE hS7 hE7
      have kA : Mir.KeyA (mkO cc).ans (kyc way cc) := Mir.keyA_of way cc
      have lv := Mir.lev12 hM7.bal (by omega)
      have lvc := Mir.lev_clog hM7.bal
      obtain ⟨dx, v, hm7, ht7⟩ := hM7.ob
      -- the deed
      refine ⟨_, rfl, _, rfl, _, rfl, _, rfl, _, rfl, ?_⟩
      intro H8 L
      refine ⟨mkO cc, m0, dx, D, v, .ref kt, t, [], ms, way, mo, cc, rfl, L.keep hm7, hM7.mq, ht7.same L.same, lv, L.log (js := [3, 1]) (NdefX.ndef_free (sc := defScope st_law) (fr := ["_law_asked", "_law_way"]) (by decide +kernel)) (NdefX.ndef_fr (sc := defScope st_law) (fr := ["_law_asked", "_law_way"]) (by decide +kernel)) rfl (by have e := hf.1.hf; rw [eob] at e; exact e) (by have e := hf.1.hc; rw [eqn] at e; exact e) hq7 .nil, fun x hx => (hE7 x hx).1.tk (Same.tk L.same), kE.tk (Same.tk L.same), Nat.zero_le _, hM7.bal, L.keep hD7, Dq, hlg7.tk (Same.tk L.same), fun z hz => ⟨(hE7 z hz).1.tk (Same.tk L.same), (hE7 z hz).2⟩, kE.tk (Same.tk L.same), by omega, kA, hS7, fun H10 t2 ml out => ?_⟩
      have k3 := L.kb3 out.kb
      have at3 := fun {b : Addr} {o : HO} => L.atD (b := b) (o := o) (some_nn hq7) (some_nn hm7) (some_nn hD7) out.kb
      have kS : TK H10 (strip _ H10) := fun b xs e => at3 e tup_fz
      obtain ⟨_, _, _, hq10⟩ := out.log
      have hq10 : ∃ qs, H10 q = some (.lst qs) ∧ LogAt H10 qs ml := hq10
      obtain ⟨v', hm10, ht10⟩ := out.tr
      obtain ⟨ms2, hD10, hlg10⟩ := out.ms
      have klm : kl ≠ m0 := fun z => by
        rw [z, hm7] at hkl7
        cases hkl7
      have hE11 : ∀ z ∈ Mir.toL t2, El cc z.1 (strip _ H10) ∧ ∃ i, z.2 = V.int i := fun z hz => ⟨(out.el z hz).1.tk kS, (out.el z hz).2⟩
      refine lentQ_of (F := fun H11 => HeldS K a (ns.map V.int) q f c' ob qn [] [] (fun _ => ((0, 0) : Int × Int)) ml H11 ∧ MapH CM CN q f H11 m0 t2 ∧ (∃ ms2, H11 D = some (.lst ms2) ∧ LogAt H11 ms2 (Mir.toL t2)) ∧ H11 kl = some (.lst (keysL t)) ∧ (∀ z ∈ Mir.toL t, El cc z.1 H11) ∧ (∀ z ∈ Mir.toL t2, El cc z.1 H11) ∧ El cc (.ref kt) H11) ⟨hf.lent3 hm7 hD7 L out.kb hq10, ⟨⟨dx, v', at3 hm10 ins_fz, ht10.mono fun b _ _ _ _ _ _ _ _ e => at3 e ins_fz⟩, hM7.mq, out.bal, fun z hz => ⟨(hE11 z hz).1.now, (hE11 z hz).2⟩⟩, ⟨ms2, at3 hD10 lst_fz, hlg10.tk kS⟩, k3.keep _ _ klq klm klD hkl7, fun z hz => (hE7 z hz).1.tk k3.tk, fun z hz => (hE11 z hz).1, kE.tk k3.tk⟩ fun Z ⟨hg, hM, ⟨ms2, hDD, hlgD⟩, hklZ, hEt, hE2, kEZ⟩ => ?_
      have nl := out.nl
      have mm := out.mm
      have cn2 := out.cn
      have hS2 := out.srt
      clear hE11 hlg10 hD10 ht10 hm10 hq10 kS at3 k3 out L hf hM7 hD7 hlg7 hkl7 hk7 hS7 hq7 hE7 kE hm7 ht7
      refine ⟨_, rfl, iteF ?_⟩
      -- the number of questions
      obtain ⟨qs, hqZ, lgZ⟩ := hg.1.hq
      have lq := lgZ.length
      refine ⟨_, rfl, q, qs, rfl, .inl (SqL.of hqZ), _, rfl, kl, keysL t, rfl, .inl (SqL.of hklZ), _, _, ((Mir.cnt t + 1 : Nat) : Int), rfl, rfl, (by show ((Mir.cnt t + 1 : Nat) : Int) = ((keysL t).length : Int) + 1; rw [keysL_len]; rfl), Mir.cnt t + 1, rfl, by omega, _, _, ((2 * Mir.clog (Mir.cnt t + 1) : Nat) : Int), rfl, rfl, .inl ⟨by decide, by decide⟩, (by show ((2 * Mir.clog (Mir.cnt t + 1) : Nat) : Int) = 2 * (Mir.clog (Mir.cnt t + 1) : Int); omega), _, _, ((2 * Mir.clog (Mir.cnt t + 1) + 1 : Nat) : Int), rfl, rfl, (by show ((2 * Mir.clog (Mir.cnt t + 1) + 1 : Nat) : Int) = ((2 * Mir.clog (Mir.cnt t + 1) : Nat) : Int) + 1; omega), _, _, rfl, rfl, _, rfl, ?_⟩
      refine iteD (fun h => ?_) (fun _ => ?_)
      · have h' : ((2 * Mir.clog (Mir.cnt t + 1) + 1 : Nat) : Int) < (qs.length : Int) := h
        omega
      -- the questions
      refine ⟨_, rfl, q, rfl, ⟨_, SqL.of hqZ⟩, fun Db hDb => ?_⟩
      refine lc_list (K := K) (a := q) (xs := qs) (fun i H3 => Same Z H3 ∧ H3 Db = some (.lst ((List.replicate i true).map V.bl))) ⟨Same.new hDb, upd_same⟩ (fun i H3 _ h => SqL.of (h.1 _ _ hqZ)) ?_ ?_
      · rintro j x H3 hj ⟨s3, h3⟩
        obtain ⟨z, hz1, tq, rfl, htq⟩ := LogAt.get lgZ hj
        obtain ⟨hz2, hz3⟩ := mm z (List.mem_of_getElem? hz1)
        have hjl : j < qs.length := (List.getElem?_eq_some_iff.mp hj).1
        rw [hz2] at htq
        refine ⟨tq, [z.1, .ref kt], rfl, SqT.of (s3 _ _ htq), rfl, _, _, rfl, _, _, rfl, rfl, rfl, ?_⟩
        have kE3 := kEZ.tk (Same.tk s3)
        have hK3 : Els cc (keysL t) H3 := fun x hx => by
          obtain ⟨y, hy, rfl⟩ := List.mem_map.mp hx
          exact (hEt y hy).tk (Same.tk s3)
        refine ⟨_, rfl, _, rfl, _, _, dp_el (hK3 z.1 hz3).1, dp_row (SqL.of (s3 _ _ hklZ)) hK3, shaped_pd _, shaped_row cc _, _, rfl, ?_⟩
        rw [any_pd, decide_eq_true (show cc z.1 ∈ (keysL t).map cc from List.mem_map.mpr ⟨_, hz3, rfl⟩)]
        refine iteT ?_
        refine ⟨_, rfl, _, rfl, _, _, dp_el kE3.1, dp_el kE3.1, shaped_pd _, shaped_pd _, ?_⟩
        rw [eqv_pd, decide_eq_true rfl]
        refine ⟨_, h3, small1000 (by rw [List.length_map, List.length_replicate]; omega), fun b o e => ?_, ?_⟩
        · rw [upd_ne (ne_of_none e hDb)]
          exact s3 _ _ e
        · rw [upd_same, List.replicate_succ', List.map_append]
          rfl
      rintro H9 ⟨s9, h9⟩
      refine ⟨Db, _, rfl, SqL.of h9, ?_⟩
      rw [show (List.replicate qs.length true).all id = true from by simp]
      refine ⟨_, rfl, iteF ?_⟩
      -- clear
      have hg9 := hg.same s9
      have hM9 := hM.same s9
      have hD9 := s9 _ _ hDD
      have hlg9 := hlgD.tk (Same.tk s9)
      have hE9 := fun z hz => (hE2 z hz).tk (Same.tk s9)
      have kE9 := kEZ.tk (Same.tk s9)
      clear s9 h9 hDb lgZ hqZ lq hg hM hDD hlgD hklZ hEt hE2 kEZ mm nl
      obtain ⟨qs, hq9, _⟩ := hg9.1.hq
      refine ⟨_, rfl, .inl ⟨rfl, _, SqL.of hq9⟩, q, qs, rfl, rfl, hq9, ?_⟩
      have kT : TK H9 (upd H9 q (.lst [])) := TK.wr hq9 nf_lst
      have hf := hg9.wr (qs := []) .nil
      have hM := hM9.wr (ys := []) hq9
      have hDD : upd H9 q (.lst []) D = some (.lst ms2) := (upd_ne Dq).trans hD9
      have hlgD := hlg9.tk kT
      have hE := fun z hz => (hE9 z hz).tk kT
      have kE := kE9.tk kT
      have hqC : upd H9 q (.lst []) q = some (.lst []) := upd_same
      obtain ⟨Z7, e7⟩ : ∃ Z, Z = upd H9 q (.lst []) := ⟨_, rfl⟩
      rw [← e7] at hf hM hDD hlgD hE kE hqC ⊢
      clear e7 kT hq9 kE9 hE9 hlg9 hD9 hM9 hg9
      have lms2 := hlgD.length
      rw [← Mir.cnt_len] at lms2
      obtain ⟨dxt, vt, hmt, htt⟩ := hM.ob
      -- the place
      obtain ⟨pl, epl⟩ : ∃ pl : Int, pl = mo / 4096 % 44 - 2 := ⟨_, rfl⟩
      refine ⟨_, rfl, _, _, mo / 4096, rfl, rfl, ⟨by decide, by decide⟩, rfl, _, _, mo / 4096 % 44, rfl, rfl, (by show (0 : Int) < 44; decide), rfl, _, _, pl, rfl, rfl, epl, ?_⟩
      refine ⟨fun σ H' => ∃ dv : V, σ = [some (.ref a), some (.int way), some (.int sp), some (.ref q), some (.ref m0), some (.ref D), some (.int (i : Nat)), some (.int mo), some (.ref kt), none, some (.ref kl), none, some (.int pl), some dv] ∧ Z7 = H' ∧ (0 ≤ pl ∧ pl < (Mir.cnt t2 : Int) → ∃ z tq, (Mir.toL t2)[pl.toNat]? = some z ∧ dv = .ref tq ∧ Z7 tq = some (.tup [z.1, z.2])) ∧ (¬ (0 ≤ pl ∧ pl < (Mir.cnt t2 : Int)) → dv = .str noneS), ?_, ?_⟩
      · refine ⟨_, rfl, _, _, rfl, rfl, _, rfl, ?_⟩
        refine iteD (fun h0 => ?_) (fun h0 => ⟨_, rfl, iteF ⟨_, rfl, rfl, fun h => absurd h.1 h0, fun _ => rfl⟩⟩)
        have h0' : (0 : Int) ≤ pl := h0
        refine ⟨_, rfl, D, ms2, rfl, .inl (SqL.of hDD), _, _, rfl, rfl, _, rfl, iteD (fun h1 => ?_) (fun h1 => ?_)⟩
        · have h1' : pl < (ms2.length : Int) := h1
          obtain ⟨x, ex⟩ : ∃ x, ms2[pl.toNat]? = some x := ⟨_, List.getElem?_eq_getElem (by omega)⟩
          obtain ⟨z, hz1, tq, rfl, htq⟩ := LogAt.get hlgD ex
          refine ⟨_, rfl, _, rfl, D, ms2, pl, .ref tq, rfl, rfl, SqL.of hDD, by rw [show pl = ((pl.toNat : Nat) : Int) from by omega]; exact atI_nat ex, ?_⟩
          exact ⟨_, rfl, rfl, fun _ => ⟨z, tq, hz1, rfl, htq⟩, fun h => absurd ⟨h0', by omega⟩ h⟩
        · have h1' : ¬ pl < (ms2.length : Int) := h1
          exact ⟨_, rfl, rfl, fun h => absurd h.2 (by omega), fun _ => rfl⟩
      rintro σ H' ⟨dv, rfl, rfl, hdv1, hdv2⟩
      -- size, at, pairs
      refine ⟨fun b H' => b = false ∧ Same Z7 H', ?_, ?_⟩
      · refine ⟨_, rfl, m0, dxt, _, rfl, hmt, mfl_no _ _ (by decide +kernel) (by decide +kernel), q, m0, dxt, f, vt, t2, rfl, hmt, htt, ?_⟩
        refine ⟨_, rfl, D, ms2, rfl, .inl (SqL.of hDD), rfl, _, rfl, ?_⟩
        rw [lms2, decide_eq_true rfl]
        refine iteF ?_
        refine ⟨_, rfl, _, rfl, q, m0, dxt, f, vt, t2, pl, rfl, hmt, htt, fun tu k g h0 e ntu => ?_, fun hn => ?_⟩
        · have s8 := Same.new (o := .tup [k, g]) ntu
          have hpl : pl.toNat < (Mir.toL t2).length := (List.getElem?_eq_some_iff.mp e).1
          obtain ⟨z, tq, hz1, rfl, htq⟩ := hdv1 ⟨h0, by rw [Mir.cnt_len]; omega⟩
          rw [e] at hz1
          obtain rfl : (k, g) = z := Option.some.inj hz1
          have hz8 := (hM.same s8).el (k, g) (List.mem_of_getElem? e)
          obtain ⟨gi, hgi⟩ := hz8.2
          have hgi : g = .int gi := hgi
          have sh : SeqAt.shaped (.tuple [pd (Ord.cnt (upd Z7 tu (.tup [k, g])) k), .int gi]) = true := shaped_of (canLay_pdm (Ord.cnt (upd Z7 tu (.tup [k, g]))) (k, .int gi)) (Nat.le_trans (depth_pdm (Ord.cnt (upd Z7 tu (.tup [k, g]))) (k, .int gi)) (by decide))
          refine ⟨_, rfl, .tuple [pd (Ord.cnt (upd Z7 tu (.tup [k, g])) k), .int gi], .tuple [pd (Ord.cnt (upd Z7 tu (.tup [k, g])) k), .int gi], .tup (SqT.of upd_same) (.cons (dp_el hz8.1.1) (.cons (by rw [hgi]; exact .int gi) .nil)), .tup (SqT.of (s8 _ _ htq)) (.cons (dp_el hz8.1.1) (.cons (by rw [hgi]; exact .int gi) .nil)), sh, sh, _, rfl, ?_⟩
          rw [eqv_self sh]
          refine iteF ?_
          refine ⟨_, rfl, _, _, mo / 7, rfl, rfl, ⟨by decide, by decide⟩, rfl, _, _, mo / 7 % 4, rfl, rfl, (by show (0 : Int) < 4; decide), rfl, rfl, _, rfl, iteI (fun _ => ?_) (fun _ => ?_)⟩
          · refine ⟨_, rfl, m0, dxt, _, rfl, s8 _ _ hmt, mfl_no _ _ (by decide +kernel) (by decide +kernel), q, m0, dxt, f, vt, t2, rfl, s8 _ _ hmt, htt.same (s8), by omega, fun Hp Dp ps sp2 nDp hDp hlgp => ?_⟩
            have sA := Same.trans (s8) sp2
            refine ⟨_, rfl, _, _, .lst (SqL.of hDp) (dp_pairs hlgp (hM.same sA).el), .lst (SqL.of (sA _ _ hDD)) (dp_pairs (hlgD.tk (Same.tk sA)) (hM.same sA).el), shaped_pdms _ _, shaped_pdms _ _, _, rfl, ?_⟩
            rw [eqv_self (shaped_pdms _ _)]
            exact ⟨rfl, sA⟩
          · exact ⟨rfl, s8⟩
        · obtain rfl := hdv2 hn
          have sh : SeqAt.shaped (.str noneS) = true := shaped_of (by rw [PyData.canLay0]; decide +kernel) (by rw [PyData.depth]; decide)
          refine ⟨_, rfl, _, _, .str noneS, .str noneS, sh, sh, _, rfl, ?_⟩
          rw [eqv_self sh]
          refine iteF ?_
          refine ⟨_, rfl, _, _, mo / 7, rfl, rfl, ⟨by decide, by decide⟩, rfl, _, _, mo / 7 % 4, rfl, rfl, (by show (0 : Int) < 4; decide), rfl, rfl, _, rfl, iteI (fun _ => ?_) (fun _ => ?_)⟩
          · refine ⟨_, rfl, m0, dxt, _, rfl, (Same.refl _) _ _ hmt, mfl_no _ _ (by decide +kernel) (by decide +kernel), q, m0, dxt, f, vt, t2, rfl, (Same.refl _) _ _ hmt, htt.same ((Same.refl _)), by omega, fun Hp Dp ps sp2 nDp hDp hlgp => ?_⟩
            have sA := Same.trans ((Same.refl _)) sp2
            refine ⟨_, rfl, _, _, .lst (SqL.of hDp) (dp_pairs hlgp (hM.same sA).el), .lst (SqL.of (sA _ _ hDD)) (dp_pairs (hlgD.tk (Same.tk sA)) (hM.same sA).el), shaped_pdms _ _, shaped_pdms _ _, _, rfl, ?_⟩
            rw [eqv_self (shaped_pdms _ _)]
            exact ⟨rfl, sA⟩
          · exact ⟨rfl, (Same.refl _)⟩
      rintro b H8 ⟨rfl, s8⟩
      refine iteF ?_
      have hf8 := hf.same s8
      have hM8 := hM.same s8
      have hD8 := s8 _ _ hDD
      have hlg8 := hlgD.tk (Same.tk s8)
      have hE8 := fun z hz => (hE z hz).tk (Same.tk s8)
      have kE8 := kE.tk (Same.tk s8)
      have hq8 := s8 _ _ hqC
      clear s8 hf hM hDD hlgD hE kE hqC hmt htt hdv1 hdv2
      -- no question
      refine ⟨_, rfl, Nat.zero_le _, fun p9 n9 => ?_⟩
      have s9 := Same.new (o := .lst []) n9
      refine ⟨.list [], .list [], .lst (SqL.of (s9 _ _ hq8)) .nil, .lst (SqL.of upd_same) .nil, shaped_nil, shaped_nil, _, rfl, ?_⟩
      rw [show PyData.eqv (.list []) (.list []) = true from by rw [PyData.eqv, PyData.eqvAll]]
      refine iteF ?_
      obtain ⟨H9, e9⟩ : ∃ Z, Z = upd H8 p9 (.lst []) := ⟨_, rfl⟩
      rw [← e9] at s9 ⊢
      clear e9 n9
      have hf := hf8.same s9
      have hM9 := hM8.same s9
      have hD9 := s9 _ _ hD8
      have hlg9 := hlg8.tk (Same.tk s9)
      have hE9 := fun z hz => (hE8 z hz).tk (Same.tk s9)
      have kE9 := kE8.tk (Same.tk s9)
      have hq9 := s9 _ _ hq8
      clear s9 hf8 hM8 hD8 hlg8 hE8 kE8 hq8
      -- rank
      obtain ⟨dx, v, hm9, ht9⟩ := hM9.ob
      have lv2 := Mir.lev12 hM9.bal (by omega)
      have lvc2 := Mir.lev_clog hM9.bal
      refine ⟨_, rfl, m0, dx, _, rfl, hm9, mfl_no _ _ (by decide +kernel) (by decide +kernel), _, rfl, ?_⟩
      intro H10 L
      refine ⟨mkO cc, m0, dx, v, .ref kt, t2, [], rfl, L.keep hm9, hM9.mq, ht9.same L.same, L.log (js := [3, 1]) (NdefX.ndef_free (sc := defScope st_law) (fr := ["_law_asked", "_law_way"]) (by decide +kernel)) (NdefX.ndef_fr (sc := defScope st_law) (fr := ["_law_asked", "_law_way"]) (by decide +kernel)) rfl (by have e := hf.1.hf; rw [eob] at e; exact e) (by have e := hf.1.hc; rw [eqn] at e; exact e) hq9 .nil, fun x hx => (hE9 x hx).tk (Same.tk L.same), kE9.tk (Same.tk L.same), by simp only [List.length_nil]; omega, fun H11 kb hL' => ?_⟩
      obtain ⟨_, _, _, hq11⟩ := hL'
      have k2 := L.kb kb
      obtain ⟨ml2, el1, el2, el3⟩ := Mir.fnd_log (mkO cc).ans (.ref kt) t2 0 []
      rw [el1, List.nil_append] at hq11
      obtain ⟨fo, ah, hF⟩ := FA.of (key := .ref kt) hS2
      have erk : (Mir.fnd (mkO cc).ans t2 (.ref kt) 0 []).2.1 = ah := by
        rcases Mir.fnd_key kA (.ref kt) t2 0 [] hS2 with ⟨A, B, h1, lo, hi, h2, h3⟩ | ⟨A, k, g, B, h1, he, lo, hi, h2, h3⟩
        · rw [h1] at hF
          rw [h3, (hF.none lo hi).2, Nat.zero_add]
        · rw [h1] at hF
          rw [h3, (hF.some he).2, Nat.zero_add]
      rw [erk]
      refine lentQ_of (F := fun H11 => HeldS K a (ns.map V.int) q f c' ob qn [] [] (fun _ => ((0, 0) : Int × Int)) ml2 H11 ∧ MapH CM CN q f H11 m0 t2 ∧ H11 D = some (.lst ms2) ∧ LogAt H11 ms2 (Mir.toL t2) ∧ (∀ z ∈ Mir.toL t2, El cc z.1 H11) ∧ El cc (.ref kt) H11) ⟨hf.lent L kb hq11, hM9.kb k2, k2.keep _ _ Dq hD9, hlg9.tk k2.tk, fun z hz => (hE9 z hz).tk k2.tk, kE9.tk k2.tk⟩ fun Z ⟨hg, hM, hDD, hlgD, hE, kE⟩ => ?_
      clear k2 hq11 kb L hf hM9 hD9 hlg9 hE9 kE9 hq9 hm9 ht9
      refine ⟨_, rfl, _, rfl, _, rfl, D, ms2, Mir.toL t2, way, cc, .ref kt, fo, ah, rfl, SqL.of hDD, hlgD, hE, kE, by rw [← Mir.cnt_len]; omega, hF, fun tu ntu => ?_⟩
      have s1 := Same.new (o := .tup [.int fo, .int (ah : Nat)]) ntu
      refine ⟨tu, _, 1, .int (ah : Nat), rfl, rfl, SqT.of upd_same, rfl, ?_⟩
      refine ⟨rfl, _, rfl, ?_⟩
      rw [decide_eq_true rfl]
      refine iteF ?_
      obtain ⟨Z1, e1⟩ : ∃ z, z = upd Z tu (.tup [.int fo, .int (ah : Nat)]) := ⟨_, rfl⟩
      rw [← e1] at s1 ⊢
      clear e1 ntu
      have hg1 := hg.same s1
      have hM1 := hM.same s1
      have hD1 := s1 _ _ hDD
      have hlg1 := hlgD.tk (Same.tk s1)
      have hE1 := fun z hz => (hE z hz).tk (Same.tk s1)
      clear s1 hg hM hDD hlgD hE kE
      obtain ⟨qs, hq1, lgq⟩ := hg1.1.hq
      have lq := lgq.length
      refine ⟨_, rfl, q, qs, rfl, .inl (SqL.of hq1), _, rfl, D, ms2, rfl, .inl (SqL.of hD1), _, _, ((Mir.cnt t2 + 1 : Nat) : Int), rfl, rfl, (by show ((Mir.cnt t2 + 1 : Nat) : Int) = ((ms2).length : Int) + 1; rw [lms2]; rfl), Mir.cnt t2 + 1, rfl, by omega, _, _, ((2 * Mir.clog (Mir.cnt t2 + 1) : Nat) : Int), rfl, rfl, .inl ⟨by decide, by decide⟩, (by show ((2 * Mir.clog (Mir.cnt t2 + 1) : Nat) : Int) = 2 * (Mir.clog (Mir.cnt t2 + 1) : Int); omega), _, _, ((2 * Mir.clog (Mir.cnt t2 + 1) + 1 : Nat) : Int), rfl, rfl, (by show ((2 * Mir.clog (Mir.cnt t2 + 1) + 1 : Nat) : Int) = ((2 * Mir.clog (Mir.cnt t2 + 1) : Nat) : Int) + 1; omega), _, _, rfl, rfl, _, rfl, ?_⟩
      refine iteD (fun h => ?_) (fun _ => ?_)
      · have h' : ((2 * Mir.clog (Mir.cnt t2 + 1) + 1 : Nat) : Int) < (qs.length : Int) := h
        omega
      exact ⟨t2, ml2, ms2, _, _, _, _, _, _, rfl, hg1, hM1, hD1, hlg1, srt_now hE1 hS2, by omega⟩
    -- the end
    clear hb2 hMb2 hDb2 hlp
    rintro σ H3 ⟨t, l, ms, v6, v7, v8, v10, v12, v13, rfl, hd, hM, hDD, hlgD, hSS, cn⟩
    obtain ⟨dx, v, hm3, ht3⟩ := hM.ob
    refine ⟨_, rfl, m0, dx, _, rfl, hm3, mfl_no _ _ (by decide +kernel) (by decide +kernel), q, m0, dx, f, v, t, rfl, hm3, ht3, by omega, fun Hp Dp ps sp2 nDp hDp hlgp => ?_⟩
    refine ⟨_, rfl, _, _, .lst (SqL.of hDp) (dp_pairs hlgp (hM.same sp2).el), .lst (SqL.of (sp2 _ _ hDD)) (dp_pairs (hlgD.tk (Same.tk sp2)) (hM.same sp2).el), shaped_pdms _ _, shaped_pdms _ _, ?_⟩
    rw [eqv_self (shaped_pdms _ _)]
    exact hQ _
theorem ok_law {c Pt : Addr} (d_law : Df K mg "law" st_law ["_law_script"]) (d_level_of : Df K mg "level_of" st_level_of ["node"]) (d_many_of : Df K mg "many_of" st_many_of ["node"]) (d_lean : Df K mg "lean" st_lean ["node"]) (d_right_up : Df K mg "right_up" st_right_up ["node"]) (d_left_up : Df K mg "left_up" st_left_up ["node"]) (d_even : Df K mg "even" st_even ["key", "held", "left", "right"]) (d_with_key : Df K mg "with_key" st_with_key ["node", "key", "held", "order"]) (d_without_first : Df K mg "without_first" st_without_first ["node"]) (d_joined : Df K mg "joined" st_joined ["left", "right"]) (d_without_key : Df K mg "without_key" st_without_key ["node", "key", "order"]) (d__law_cell : Df K mg "_law_cell" st__law_cell ["_law_script", "_law_k"]) (d__law_drawn : Df K mg "_law_drawn" st__law_drawn ["_law_cell_here", "_law_k"]) (d__law_answer : Df K mg "_law_answer" st__law_answer ["_law_way", "_law_one", "_law_other"]) (d__law_ask : Df K mg "_law_ask" st__law_ask ["_law_asked", "_law_way", "_law_one", "_law_other"]) (d__law_log : Df K mg "_law_log" st__law_log ["_law_many"]) (d__law_find : Df K mg "_law_find" st__law_find ["_law_model", "_law_key", "_law_way"]) (d__law_got : Df K mg "_law_got" st__law_got ["_law_tree", "_law_key"]) (d__law_at : Df K mg "_law_at" st__law_at ["_law_tree", "_law_place"]) (d__law_deed : Df K mg "_law_deed" st__law_deed ["_law_tree", "_law_model", "_law_way", "_law_more", "_law_key"]) (d_Node : Di K mg CN "Node" "Node.__init__" st_Node___init__ ["self", "key", "held", "left", "right"]) (d_Map : Di K mg CM "Map" "Map.__init__" st_Map___init__ ["self", "order"]) (d_Map_size : Dm K CM "size" "Map.size" st_Map_size ["self"]) (d_Map_put : Dm K CM "put" "Map.put" st_Map_put ["self", "key", "held"]) (d_Map_drop : Dm K CM "drop" "Map.drop" st_Map_drop ["self", "key"]) (d_Map_found : Dm K CM "found" "Map.found" st_Map_found ["self", "key"]) (d_Map_get : Dm K CM "get" "Map.get" st_Map_get ["self", "key"]) (d_Map_has : Dm K CM "has" "Map.has" st_Map_has ["self", "key"]) (d_Map_rank : Dm K CM "rank" "Map.rank" st_Map_rank ["self", "key"]) (d_Map_at : Dm K CM "at" "Map.at" st_Map_at ["self", "place"]) (d_Map_pairs : Dm K CM "pairs" "Map.pairs" st_Map_pairs ["self"]) (TN : NodeT K CN) (TM : MapT K CM) (TE : ExcT K mg "NoElement" CE) (TP : ExcT K mg "NoPlace" CP)
    (mLen : mg "len" = none) (mInt : mg "int" = none) (mAbs : mg "abs" = none) (mMax : mg "max" = none) (mRange : mg "range" = none) (mAll : mg "all" = none) (mIsi : mg "isinstance" = none) (mBool : mg "bool" = none)
    (TB : TabB base mg c Pt) (hc : d_law.fd.code = .ref c) : FnOk P w K mg base CX0 40 d_law.f d_law.fd ["_law_script"] (spLaw K Pt) := by
  refine fn_frz (ok_lawF d_law d_level_of d_many_of d_lean d_right_up d_left_up d_even d_with_key d_without_first d_joined d_without_key d__law_cell d__law_drawn d__law_answer d__law_ask d__law_log d__law_find d__law_got d__law_at d__law_deed d_Node d_Map d_Map_size d_Map_put d_Map_drop d_Map_found d_Map_get d_Map_has d_Map_rank d_Map_at d_Map_pairs TN TM TE TP mLen mInt mAbs mMax mRange mAll mIsi mBool TB hc) (fun vs H Q E h => ?_) fun vs H Q E h => ?_
  · obtain ⟨a, ns, rfl, _⟩ := h
    rfl
  · obtain ⟨a, ns, rfl, hS, hz, hP, hQ⟩ := h
    rcases hS with (hS | ⟨o, hS⟩) | hS
    · refine .inr ⟨a, ns.map V.int, hS, fun o => ⟨a, ns, rfl, .inl ⟨o, upd_same⟩, hz, (upd_ne fun z => ?_).trans hP, hQ⟩⟩
      rw [z, hS] at hP
      cases hP
    · exact .inl ⟨a, ns, rfl, .inl ⟨o, hS⟩, hz, hP, hQ⟩
    · exact .inl ⟨a, ns, rfl, .inr fun H' => .inr hS, hz, hP, hQ⟩
end
end Ord

namespace Ord
open PySem PySem.Spec PyProof.Rows L2 LamX
theorem toFun {K : PySem.W.Frag} {x qual : Str} {st : Stmt} {f : Addr} {fd : FuncData} (F : FunD K x qual (defArgs st) (defBody st) (defScope st) [] [] f fd) : Fun K x qual st f fd := by
  obtain ⟨oc, od, dV, kV, doc, pm, an, cdv, ct, osl, e, lk, hcd, hD, hK⟩ := F.ex
  rcases hD with ⟨_, rfl⟩ | ⟨z, _⟩
  · exact ⟨⟨oc, od, kV, doc, pm, an, cdv, ct, osl, e, lk, hcd⟩, F.kp⟩
  · exact absurd rfl z
theorem df_of {K : PySem.W.Frag} {mg : Str → Option Value} {x : Str} {st : Stmt} {ps : List Str} (h : ∃ fd, FunD K x x (defArgs st) (defBody st) (defScope st) [] [] (He.fAd K (x, none)) fd) (g : mg x = some (.ref (He.ga K x)))
    (hb : ∀ (kV doc pm : Value) (an : Option Addr) (cdv ct : Value) (us : List Value), us.length = ps.length → bindArgs (PySem.W.fnOf x x (defArgs st) (defBody st) (defScope st) .none kV doc pm an cdv ct) ⟨us, []⟩ = pure (ps.zip us)) :
    ∃ d : Df K mg x st ps, d.f = He.fAd K (x, none) := by
  obtain ⟨fd, F⟩ := h
  exact ⟨⟨_, fd, toFun F, g, (toFun F).binds hb⟩, rfl⟩
theorem df_code {K : PySem.W.Frag} {mg : Str → Option Value} {x : Str} {st : Stmt} {ps : List Str} (d : Df K mg x st ps) (e : d.f = He.fAd K (x, none)) : d.fd.code = .ref (He.cT K (x, none)).1 := by
  obtain ⟨oc, od, kV, doc, pm, an, cdv, ct, osl, e1, lk, hcd⟩ := d.F.ex
  obtain ⟨c, ec⟩ := He.codeIn_ref hcd
  have e2 : d.fd.code = .ref c := by rw [e1]; exact ec
  rw [e] at lk
  have e3 : He.codeOf K (x, none) = c := He.codeOf_eq lk e2
  rw [e2]
  show _ = Value.ref (He.codeOf K (x, none))
  rw [e3]
theorem df_bind {K : PySem.W.Frag} {mg : Str → Option Value} {x : Str} {st : Stmt} (d : Df K mg x st [y])
    (hb : ∀ (kV doc pm : Value) (an : Option Addr) (cdv ct : Value) (us : List Value), us.length = 1 → bindArgs (PySem.W.fnOf x x (defArgs st) (defBody st) (defScope st) .none kV doc pm an cdv ct) ⟨us, []⟩ = pure ([y].zip us)) : ∀ (s : Shared) (u : Value), BindsTo s d.fd ⟨[u], []⟩ [(y, u)] := by
  intro s u
  obtain ⟨oc, od, kV, doc, pm, an, cdv, ct, osl, e1, lk, hcd⟩ := d.F.ex
  rw [e1]
  exact .of_eq (hb kV doc pm an cdv ct [u] rfl)
end Ord

namespace Ord
open PySem PySem.Spec PyProof.Rows L2 LamX
theorem toFunM {K : PySem.W.Frag} {x qual : Str} {st : Stmt} {f : Addr} {fd : FuncData} (F : FunD K x qual (defArgs st) (defBody st) (defScope st) [] [] f fd) : Fun K x qual st f fd := by
  obtain ⟨oc, od, dV, kV, doc, pm, an, cdv, ct, osl, e, lk, hcd, hD, hK⟩ := F.ex
  rcases hD with ⟨_, rfl⟩ | ⟨z, _⟩
  · exact ⟨⟨oc, od, kV, doc, pm, an, cdv, ct, osl, e, lk, hcd⟩, F.kp⟩
  · exact absurd rfl z
theorem dm_of {K : PySem.W.Frag} {x m qual : Str} {st : Stmt} {ps : List Str} (h : ∃ fd, FunD K m qual (defArgs st) (defBody st) (defScope st) [] [] (He.fAd K (x, some m)) fd) (me : Meth K (He.ga K x) m (He.ma K (He.ga K x) m))
    (hb : ∀ (kV doc pm : Value) (an : Option Addr) (cdv ct : Value) (us : List Value), us.length = ps.length → bindArgs (PySem.W.fnOf m qual (defArgs st) (defBody st) (defScope st) .none kV doc pm an cdv ct) ⟨us, []⟩ = pure (ps.zip us)) :
    ∃ _ : Dm K (He.ga K x) m qual st ps, True := by
  obtain ⟨fd, F⟩ := h
  exact ⟨⟨_, fd, toFunM F, me, (toFunM F).binds hb⟩, True.intro⟩
theorem di_of {K : PySem.W.Frag} {mg : Str → Option Value} {x qual : Str} {st : Stmt} {ps : List Str} (h : ∃ fd, FunD K "__init__" qual (defArgs st) (defBody st) (defScope st) [] [] (He.fAd K (x, some "__init__")) fd) (mk : Mk K (He.ga K x) (He.ma K (He.ga K x) "__init__")) (cl : Cls K (He.ga K x)) (g : mg x = some (.ref (He.ga K x)))
    (hb : ∀ (kV doc pm : Value) (an : Option Addr) (cdv ct : Value) (us : List Value), us.length = ps.length → bindArgs (PySem.W.fnOf "__init__" qual (defArgs st) (defBody st) (defScope st) .none kV doc pm an cdv ct) ⟨us, []⟩ = pure (ps.zip us)) :
    ∃ _ : Di K mg (He.ga K x) x qual st ps, True := by
  obtain ⟨fd, F⟩ := h
  exact ⟨⟨_, fd, toFunM F, mk, (toFunM F).binds hb, cl, g⟩, True.intro⟩
end Ord

namespace Ord
open PySem PySem.Spec PyProof.Rows L2 LamX
def dd__wall : He.DefD := ⟨("_wall", none), "_wall", "_wall", defArgs st__wall, defBody st__wall, defScope st__wall, [], []⟩
def dd_level_of : He.DefD := ⟨("level_of", none), "level_of", "level_of", defArgs st_level_of, defBody st_level_of, defScope st_level_of, [], []⟩
def dd_many_of : He.DefD := ⟨("many_of", none), "many_of", "many_of", defArgs st_many_of, defBody st_many_of, defScope st_many_of, [], []⟩
def dd_lean : He.DefD := ⟨("lean", none), "lean", "lean", defArgs st_lean, defBody st_lean, defScope st_lean, [], []⟩
def dd_right_up : He.DefD := ⟨("right_up", none), "right_up", "right_up", defArgs st_right_up, defBody st_right_up, defScope st_right_up, [], []⟩
def dd_left_up : He.DefD := ⟨("left_up", none), "left_up", "left_up", defArgs st_left_up, defBody st_left_up, defScope st_left_up, [], []⟩
def dd_even : He.DefD := ⟨("even", none), "even", "even", defArgs st_even, defBody st_even, defScope st_even, [], []⟩
def dd_with_key : He.DefD := ⟨("with_key", none), "with_key", "with_key", defArgs st_with_key, defBody st_with_key, defScope st_with_key, [], []⟩
def dd_without_first : He.DefD := ⟨("without_first", none), "without_first", "without_first", defArgs st_without_first, defBody st_without_first, defScope st_without_first, [], []⟩
def dd_joined : He.DefD := ⟨("joined", none), "joined", "joined", defArgs st_joined, defBody st_joined, defScope st_joined, [], []⟩
def dd_without_key : He.DefD := ⟨("without_key", none), "without_key", "without_key", defArgs st_without_key, defBody st_without_key, defScope st_without_key, [], []⟩
def dd__law_cell : He.DefD := ⟨("_law_cell", none), "_law_cell", "_law_cell", defArgs st__law_cell, defBody st__law_cell, defScope st__law_cell, [], []⟩
def dd__law_drawn : He.DefD := ⟨("_law_drawn", none), "_law_drawn", "_law_drawn", defArgs st__law_drawn, defBody st__law_drawn, defScope st__law_drawn, [], []⟩
def dd__law_answer : He.DefD := ⟨("_law_answer", none), "_law_answer", "_law_answer", defArgs st__law_answer, defBody st__law_answer, defScope st__law_answer, [], []⟩
def dd__law_ask : He.DefD := ⟨("_law_ask", none), "_law_ask", "_law_ask", defArgs st__law_ask, defBody st__law_ask, defScope st__law_ask, [], []⟩
def dd__law_log : He.DefD := ⟨("_law_log", none), "_law_log", "_law_log", defArgs st__law_log, defBody st__law_log, defScope st__law_log, [], []⟩
def dd__law_find : He.DefD := ⟨("_law_find", none), "_law_find", "_law_find", defArgs st__law_find, defBody st__law_find, defScope st__law_find, [], []⟩
def dd__law_got : He.DefD := ⟨("_law_got", none), "_law_got", "_law_got", defArgs st__law_got, defBody st__law_got, defScope st__law_got, [], []⟩
def dd__law_at : He.DefD := ⟨("_law_at", none), "_law_at", "_law_at", defArgs st__law_at, defBody st__law_at, defScope st__law_at, [], []⟩
def dd__law_deed : He.DefD := ⟨("_law_deed", none), "_law_deed", "_law_deed", defArgs st__law_deed, defBody st__law_deed, defScope st__law_deed, [], []⟩
def dd_law : He.DefD := ⟨("law", none), "law", "law", defArgs st_law, defBody st_law, defScope st_law, [], []⟩
def dd_Node___init__ : He.DefD := ⟨("Node", some "__init__"), "__init__", "Node.__init__", defArgs st_Node___init__, defBody st_Node___init__, defScope st_Node___init__, [], []⟩
def dd_Map___init__ : He.DefD := ⟨("Map", some "__init__"), "__init__", "Map.__init__", defArgs st_Map___init__, defBody st_Map___init__, defScope st_Map___init__, [], []⟩
def dd_Map_size : He.DefD := ⟨("Map", some "size"), "size", "Map.size", defArgs st_Map_size, defBody st_Map_size, defScope st_Map_size, [], []⟩
def dd_Map_put : He.DefD := ⟨("Map", some "put"), "put", "Map.put", defArgs st_Map_put, defBody st_Map_put, defScope st_Map_put, [], []⟩
def dd_Map_drop : He.DefD := ⟨("Map", some "drop"), "drop", "Map.drop", defArgs st_Map_drop, defBody st_Map_drop, defScope st_Map_drop, [], []⟩
def dd_Map_found : He.DefD := ⟨("Map", some "found"), "found", "Map.found", defArgs st_Map_found, defBody st_Map_found, defScope st_Map_found, [], []⟩
def dd_Map_get : He.DefD := ⟨("Map", some "get"), "get", "Map.get", defArgs st_Map_get, defBody st_Map_get, defScope st_Map_get, [], []⟩
def dd_Map_has : He.DefD := ⟨("Map", some "has"), "has", "Map.has", defArgs st_Map_has, defBody st_Map_has, defScope st_Map_has, [], []⟩
def dd_Map_rank : He.DefD := ⟨("Map", some "rank"), "rank", "Map.rank", defArgs st_Map_rank, defBody st_Map_rank, defScope st_Map_rank, [], []⟩
def dd_Map_at : He.DefD := ⟨("Map", some "at"), "at", "Map.at", defArgs st_Map_at, defBody st_Map_at, defScope st_Map_at, [], []⟩
def dd_Map_pairs : He.DefD := ⟨("Map", some "pairs"), "pairs", "Map.pairs", defArgs st_Map_pairs, defBody st_Map_pairs, defScope st_Map_pairs, [], []⟩
def fnL : List He.DefD := [dd__wall, dd_level_of, dd_many_of, dd_lean, dd_right_up, dd_left_up, dd_even, dd_with_key, dd_without_first, dd_joined, dd_without_key, dd__law_cell, dd__law_drawn, dd__law_answer, dd__law_ask, dd__law_log, dd__law_find, dd__law_got, dd__law_at, dd__law_deed, dd_law, dd_Node___init__, dd_Map___init__, dd_Map_size, dd_Map_put, dd_Map_drop, dd_Map_found, dd_Map_get, dd_Map_has, dd_Map_rank, dd_Map_at, dd_Map_pairs]
def faL : List He.Fa := [.glo "_wall", .glo "level_of", .glo "many_of", .glo "lean", .glo "right_up", .glo "left_up", .glo "even", .glo "with_key", .glo "without_first", .glo "joined", .glo "without_key", .glo "_law_cell", .glo "_law_drawn", .glo "_law_answer", .glo "_law_ask", .glo "_law_log", .glo "_law_find", .glo "_law_got", .glo "_law_at", .glo "_law_deed", .glo "law", .free "len", .free "int", .free "abs", .free "max", .free "range", .free "all", .free "isinstance", .free "bool", .cls "Node", .mkr "Node", .glo "Node", .noat "Node" "key", .noat "Node" "held", .noat "Node" "left", .noat "Node" "right", .noat "Node" "level", .noat "Node" "many", .cls "Map", .mkr "Map", .glo "Map", .noat "Map" "order", .noat "Map" "root", .meth "Map" "size", .meth "Map" "put", .meth "Map" "drop", .meth "Map" "found", .meth "Map" "get", .meth "Map" "has", .meth "Map" "rank", .meth "Map" "at", .meth "Map" "pairs", .glo "NoElement", .exc "NoElement", .exm "NoElement" "NoElement" true, .glo "NoPlace", .exc "NoPlace", .exm "NoPlace" "NoPlace" true]
def tfL : List He.Defn := [("law", none)]
abbrev exL : PySem.W.Frag → Bool := (fun _ => true)
abbrev RR : PySem.W.OpenRow := PySem.W.OpenLaw.row PySem.Challenge.rw_yourorder_k18_whole_maps
abbrev hkL : PySem.W.Hook := He.hookX 4 faL fnL [] tfL exL
def obL (s : PySem.W.SharedT) : He.AlX := He.obsX 4 faL fnL [] tfL exL (HandSHeadRun.getT s)
theorem obL_eq (s : PySem.W.SharedT) : obL s = hkL.obs s.abs := He.obsX_eq (HandSHeadRun.getT_eq s)
theorem runL (w : World) : HandSHeadRun.RunEq RR (PySem.W.view RR.prog [28]) hkL obL 20000 ["_wall", "level_of", "many_of", "lean", "right_up", "left_up", "even", "with_key", "without_first", "joined", "without_key", "_law_cell", "_law_drawn", "_law_answer", "_law_ask", "_law_log", "_law_find", "_law_got", "_law_at", "_law_deed", "OrderError", "NoElement", "NoPlace", "Node", "Map"] w := by
  intro os
  kernel_rfl
theorem factsL {P : Program} {w : World} {K : PySem.W.Frag} {h : Heap} {mg : Str → Option Value} {f : Addr} (X : K.In h) (G : h.Ns mainGlobals mg) (hfa : mg ("law" : Str) = some (.ref f)) (cc : He.SaysX faL fnL [] tfL exL w h K) :
    ∃ fd : FuncData, (∀ (s : Shared) (u : Value), BindsTo s fd ⟨[u], []⟩ [("_law_script", u)]) ∧ ∀ base : Heap, K.In base → base.Ns mainGlobals mg → (∀ p ∈ tfL.map (He.cT K), TabB base mg p.1 p.2) → FnOk P w K mg base CX0 40 f fd ["_law_script"] (spLaw K (He.cT K ("law", none)).2) := by
  have c := cc.t.d
  obtain ⟨d_level_of, e_level_of⟩ := df_of (st := st_level_of) (ps := ["node"]) (c.def_ 1 (d := dd_level_of) rfl) (He.glo_ok X G (c.fact 1 (f := .glo "level_of") rfl)) (fun _ _ _ _ _ _ us hl => match us, hl with | [_], _ => rfl)
  obtain ⟨d_many_of, e_many_of⟩ := df_of (st := st_many_of) (ps := ["node"]) (c.def_ 2 (d := dd_many_of) rfl) (He.glo_ok X G (c.fact 2 (f := .glo "many_of") rfl)) (fun _ _ _ _ _ _ us hl => match us, hl with | [_], _ => rfl)
  obtain ⟨d_lean, e_lean⟩ := df_of (st := st_lean) (ps := ["node"]) (c.def_ 3 (d := dd_lean) rfl) (He.glo_ok X G (c.fact 3 (f := .glo "lean") rfl)) (fun _ _ _ _ _ _ us hl => match us, hl with | [_], _ => rfl)
  obtain ⟨d_right_up, e_right_up⟩ := df_of (st := st_right_up) (ps := ["node"]) (c.def_ 4 (d := dd_right_up) rfl) (He.glo_ok X G (c.fact 4 (f := .glo "right_up") rfl)) (fun _ _ _ _ _ _ us hl => match us, hl with | [_], _ => rfl)
  obtain ⟨d_left_up, e_left_up⟩ := df_of (st := st_left_up) (ps := ["node"]) (c.def_ 5 (d := dd_left_up) rfl) (He.glo_ok X G (c.fact 5 (f := .glo "left_up") rfl)) (fun _ _ _ _ _ _ us hl => match us, hl with | [_], _ => rfl)
  obtain ⟨d_even, e_even⟩ := df_of (st := st_even) (ps := ["key", "held", "left", "right"]) (c.def_ 6 (d := dd_even) rfl) (He.glo_ok X G (c.fact 6 (f := .glo "even") rfl)) (fun _ _ _ _ _ _ us hl => match us, hl with | [_, _, _, _], _ => rfl)
  obtain ⟨d_with_key, e_with_key⟩ := df_of (st := st_with_key) (ps := ["node", "key", "held", "order"]) (c.def_ 7 (d := dd_with_key) rfl) (He.glo_ok X G (c.fact 7 (f := .glo "with_key") rfl)) (fun _ _ _ _ _ _ us hl => match us, hl with | [_, _, _, _], _ => rfl)
  obtain ⟨d_without_first, e_without_first⟩ := df_of (st := st_without_first) (ps := ["node"]) (c.def_ 8 (d := dd_without_first) rfl) (He.glo_ok X G (c.fact 8 (f := .glo "without_first") rfl)) (fun _ _ _ _ _ _ us hl => match us, hl with | [_], _ => rfl)
  obtain ⟨d_joined, e_joined⟩ := df_of (st := st_joined) (ps := ["left", "right"]) (c.def_ 9 (d := dd_joined) rfl) (He.glo_ok X G (c.fact 9 (f := .glo "joined") rfl)) (fun _ _ _ _ _ _ us hl => match us, hl with | [_, _], _ => rfl)
  obtain ⟨d_without_key, e_without_key⟩ := df_of (st := st_without_key) (ps := ["node", "key", "order"]) (c.def_ 10 (d := dd_without_key) rfl) (He.glo_ok X G (c.fact 10 (f := .glo "without_key") rfl)) (fun _ _ _ _ _ _ us hl => match us, hl with | [_, _, _], _ => rfl)
  obtain ⟨d__law_cell, e__law_cell⟩ := df_of (st := st__law_cell) (ps := ["_law_script", "_law_k"]) (c.def_ 11 (d := dd__law_cell) rfl) (He.glo_ok X G (c.fact 11 (f := .glo "_law_cell") rfl)) (fun _ _ _ _ _ _ us hl => match us, hl with | [_, _], _ => rfl)
  obtain ⟨d__law_drawn, e__law_drawn⟩ := df_of (st := st__law_drawn) (ps := ["_law_cell_here", "_law_k"]) (c.def_ 12 (d := dd__law_drawn) rfl) (He.glo_ok X G (c.fact 12 (f := .glo "_law_drawn") rfl)) (fun _ _ _ _ _ _ us hl => match us, hl with | [_, _], _ => rfl)
  obtain ⟨d__law_answer, e__law_answer⟩ := df_of (st := st__law_answer) (ps := ["_law_way", "_law_one", "_law_other"]) (c.def_ 13 (d := dd__law_answer) rfl) (He.glo_ok X G (c.fact 13 (f := .glo "_law_answer") rfl)) (fun _ _ _ _ _ _ us hl => match us, hl with | [_, _, _], _ => rfl)
  obtain ⟨d__law_ask, e__law_ask⟩ := df_of (st := st__law_ask) (ps := ["_law_asked", "_law_way", "_law_one", "_law_other"]) (c.def_ 14 (d := dd__law_ask) rfl) (He.glo_ok X G (c.fact 14 (f := .glo "_law_ask") rfl)) (fun _ _ _ _ _ _ us hl => match us, hl with | [_, _, _, _], _ => rfl)
  obtain ⟨d__law_log, e__law_log⟩ := df_of (st := st__law_log) (ps := ["_law_many"]) (c.def_ 15 (d := dd__law_log) rfl) (He.glo_ok X G (c.fact 15 (f := .glo "_law_log") rfl)) (fun _ _ _ _ _ _ us hl => match us, hl with | [_], _ => rfl)
  obtain ⟨d__law_find, e__law_find⟩ := df_of (st := st__law_find) (ps := ["_law_model", "_law_key", "_law_way"]) (c.def_ 16 (d := dd__law_find) rfl) (He.glo_ok X G (c.fact 16 (f := .glo "_law_find") rfl)) (fun _ _ _ _ _ _ us hl => match us, hl with | [_, _, _], _ => rfl)
  obtain ⟨d__law_got, e__law_got⟩ := df_of (st := st__law_got) (ps := ["_law_tree", "_law_key"]) (c.def_ 17 (d := dd__law_got) rfl) (He.glo_ok X G (c.fact 17 (f := .glo "_law_got") rfl)) (fun _ _ _ _ _ _ us hl => match us, hl with | [_, _], _ => rfl)
  obtain ⟨d__law_at, e__law_at⟩ := df_of (st := st__law_at) (ps := ["_law_tree", "_law_place"]) (c.def_ 18 (d := dd__law_at) rfl) (He.glo_ok X G (c.fact 18 (f := .glo "_law_at") rfl)) (fun _ _ _ _ _ _ us hl => match us, hl with | [_, _], _ => rfl)
  obtain ⟨d__law_deed, e__law_deed⟩ := df_of (st := st__law_deed) (ps := ["_law_tree", "_law_model", "_law_way", "_law_more", "_law_key"]) (c.def_ 19 (d := dd__law_deed) rfl) (He.glo_ok X G (c.fact 19 (f := .glo "_law_deed") rfl)) (fun _ _ _ _ _ _ us hl => match us, hl with | [_, _, _, _, _], _ => rfl)
  obtain ⟨d_law, e_law⟩ := df_of (st := st_law) (ps := ["_law_script"]) (c.def_ 20 (d := dd_law) rfl) (He.glo_ok X G (c.fact 20 (f := .glo "law") rfl)) (fun _ _ _ _ _ _ us hl => match us, hl with | [_], _ => rfl)
  obtain ⟨d_Node, _⟩ := di_of (mg := mg) (st := st_Node___init__) (ps := ["self", "key", "held", "left", "right"]) (c.def_ 21 (d := dd_Node___init__) rfl) (He.mkr_ok (c.fact 30 (f := .mkr "Node") rfl)) (He.cls_ok (c.fact 29 (f := .cls "Node") rfl)) (He.glo_ok X G (c.fact 31 (f := .glo "Node") rfl)) (fun _ _ _ _ _ _ us hl => match us, hl with | [_, _, _, _, _], _ => rfl)
  have T_Node : NodeT K (He.ga K "Node") := ⟨He.cls_ok (c.fact 29 (f := .cls "Node") rfl), He.noat_ok (c.fact 32 (f := .noat "Node" "key") rfl), He.noat_ok (c.fact 33 (f := .noat "Node" "held") rfl), He.noat_ok (c.fact 34 (f := .noat "Node" "left") rfl), He.noat_ok (c.fact 35 (f := .noat "Node" "right") rfl), He.noat_ok (c.fact 36 (f := .noat "Node" "level") rfl), He.noat_ok (c.fact 37 (f := .noat "Node" "many") rfl)⟩
  obtain ⟨d_Map, _⟩ := di_of (mg := mg) (st := st_Map___init__) (ps := ["self", "order"]) (c.def_ 22 (d := dd_Map___init__) rfl) (He.mkr_ok (c.fact 39 (f := .mkr "Map") rfl)) (He.cls_ok (c.fact 38 (f := .cls "Map") rfl)) (He.glo_ok X G (c.fact 40 (f := .glo "Map") rfl)) (fun _ _ _ _ _ _ us hl => match us, hl with | [_, _], _ => rfl)
  obtain ⟨d_Map_size, _⟩ := dm_of (st := st_Map_size) (ps := ["self"]) (c.def_ 23 (d := dd_Map_size) rfl) (He.meth_ok (c.fact 43 (f := .meth "Map" "size") rfl)) (fun _ _ _ _ _ _ us hl => match us, hl with | [_], _ => rfl)
  obtain ⟨d_Map_put, _⟩ := dm_of (st := st_Map_put) (ps := ["self", "key", "held"]) (c.def_ 24 (d := dd_Map_put) rfl) (He.meth_ok (c.fact 44 (f := .meth "Map" "put") rfl)) (fun _ _ _ _ _ _ us hl => match us, hl with | [_, _, _], _ => rfl)
  obtain ⟨d_Map_drop, _⟩ := dm_of (st := st_Map_drop) (ps := ["self", "key"]) (c.def_ 25 (d := dd_Map_drop) rfl) (He.meth_ok (c.fact 45 (f := .meth "Map" "drop") rfl)) (fun _ _ _ _ _ _ us hl => match us, hl with | [_, _], _ => rfl)
  obtain ⟨d_Map_found, _⟩ := dm_of (st := st_Map_found) (ps := ["self", "key"]) (c.def_ 26 (d := dd_Map_found) rfl) (He.meth_ok (c.fact 46 (f := .meth "Map" "found") rfl)) (fun _ _ _ _ _ _ us hl => match us, hl with | [_, _], _ => rfl)
  obtain ⟨d_Map_get, _⟩ := dm_of (st := st_Map_get) (ps := ["self", "key"]) (c.def_ 27 (d := dd_Map_get) rfl) (He.meth_ok (c.fact 47 (f := .meth "Map" "get") rfl)) (fun _ _ _ _ _ _ us hl => match us, hl with | [_, _], _ => rfl)
  obtain ⟨d_Map_has, _⟩ := dm_of (st := st_Map_has) (ps := ["self", "key"]) (c.def_ 28 (d := dd_Map_has) rfl) (He.meth_ok (c.fact 48 (f := .meth "Map" "has") rfl)) (fun _ _ _ _ _ _ us hl => match us, hl with | [_, _], _ => rfl)
  obtain ⟨d_Map_rank, _⟩ := dm_of (st := st_Map_rank) (ps := ["self", "key"]) (c.def_ 29 (d := dd_Map_rank) rfl) (He.meth_ok (c.fact 49 (f := .meth "Map" "rank") rfl)) (fun _ _ _ _ _ _ us hl => match us, hl with | [_, _], _ => rfl)
  obtain ⟨d_Map_at, _⟩ := dm_of (st := st_Map_at) (ps := ["self", "place"]) (c.def_ 30 (d := dd_Map_at) rfl) (He.meth_ok (c.fact 50 (f := .meth "Map" "at") rfl)) (fun _ _ _ _ _ _ us hl => match us, hl with | [_, _], _ => rfl)
  obtain ⟨d_Map_pairs, _⟩ := dm_of (st := st_Map_pairs) (ps := ["self"]) (c.def_ 31 (d := dd_Map_pairs) rfl) (He.meth_ok (c.fact 51 (f := .meth "Map" "pairs") rfl)) (fun _ _ _ _ _ _ us hl => match us, hl with | [_], _ => rfl)
  have T_Map : MapT K (He.ga K "Map") := ⟨He.cls_ok (c.fact 38 (f := .cls "Map") rfl), He.noat_ok (c.fact 41 (f := .noat "Map" "order") rfl), He.noat_ok (c.fact 42 (f := .noat "Map" "root") rfl)⟩
  have E_NoElement : ExcT K mg "NoElement" (He.ga K "NoElement") := ⟨He.glo_ok X G (c.fact 52 (f := .glo "NoElement") rfl), (He.exc_ok (c.fact 53 (f := .exc "NoElement") rfl)).1, (He.exc_ok (c.fact 53 (f := .exc "NoElement") rfl)).2.1, (He.exc_ok (c.fact 53 (f := .exc "NoElement") rfl)).2.2.1, (He.exc_ok (c.fact 53 (f := .exc "NoElement") rfl)).2.2.2, He.exm_ok (c.fact 54 (f := .exm "NoElement" "NoElement" true) rfl)⟩
  have E_NoPlace : ExcT K mg "NoPlace" (He.ga K "NoPlace") := ⟨He.glo_ok X G (c.fact 55 (f := .glo "NoPlace") rfl), (He.exc_ok (c.fact 56 (f := .exc "NoPlace") rfl)).1, (He.exc_ok (c.fact 56 (f := .exc "NoPlace") rfl)).2.1, (He.exc_ok (c.fact 56 (f := .exc "NoPlace") rfl)).2.2.1, (He.exc_ok (c.fact 56 (f := .exc "NoPlace") rfl)).2.2.2, He.exm_ok (c.fact 57 (f := .exm "NoPlace" "NoPlace" true) rfl)⟩
  have e := hfa.symm.trans d_law.g
  cases e
  refine ⟨d_law.fd, df_bind d_law (fun _ _ _ _ _ _ us hl => match us, hl with | [_], _ => rfl), fun base hK hG hT => ?_⟩
  exact ok_law d_law d_level_of d_many_of d_lean d_right_up d_left_up d_even d_with_key d_without_first d_joined d_without_key d__law_cell d__law_drawn d__law_answer d__law_ask d__law_log d__law_find d__law_got d__law_at d__law_deed d_Node d_Map d_Map_size d_Map_put d_Map_drop d_Map_found d_Map_get d_Map_has d_Map_rank d_Map_at d_Map_pairs T_Node T_Map E_NoElement E_NoPlace  (He.free_ok X G (c.fact 21 (f := .free "len") rfl)) (He.free_ok X G (c.fact 22 (f := .free "int") rfl)) (He.free_ok X G (c.fact 23 (f := .free "abs") rfl)) (He.free_ok X G (c.fact 24 (f := .free "max") rfl)) (He.free_ok X G (c.fact 25 (f := .free "range") rfl)) (He.free_ok X G (c.fact 26 (f := .free "all") rfl)) (He.free_ok X G (c.fact 27 (f := .free "isinstance") rfl)) (He.free_ok X G (c.fact 28 (f := .free "bool") rfl)) (hT (He.cT K ("law", none)) (List.mem_map.mpr ⟨("law", none), by simp [tfL], rfl⟩)) (df_code d_law e_law)
end Ord
open PySem PySem.W PySem.Calls PyProof.Rows
theorem PySem.Challenge.cw_yourorder_k18_whole_maps_holds : PySem.Challenge.rw_yourorder_k18_whole_maps.Holds := by
  w_on; o_law
  refine HandSHeadRun.head_any (r := OpenLaw.row PySem.Challenge.rw_yourorder_k18_whole_maps) (q := view (OpenLaw.row PySem.Challenge.rw_yourorder_k18_whole_maps).prog [28]) (H := Ord.hkL) (ob := Ord.obL) (M := 20000) (loose := ["_wall", "level_of", "many_of", "lean", "right_up", "left_up", "even", "with_key", "without_first", "joined", "without_key", "_law_cell", "_law_drawn", "_law_answer", "_law_ask", "_law_log", "_law_find", "_law_got", "_law_at", "_law_deed", "OrderError", "NoElement", "NoPlace", "Node", "Map"]) (d := HandSHeadRun.topDef (OpenLaw.row PySem.Challenge.rw_yourorder_k18_whole_maps).prog 28) (kwd := []) Ord.obL_eq
    (by kernel_rfl) (fun s => by kernel_rfl) Ord.runL (by kernel_rfl) (by kernel_rfl) (by kernel_rfl) (by rfl) (by first | assumption | decide +kernel) (by decide +kernel) ⟨rfl, rfl, rfl, rfl, rfl, by decide +kernel⟩ ?hw ?hc
  case hw => w_witness2
  case hc =>
    refine LamX.walk_ofTsE (l := PySem.Challenge.rw_yourorder_k18_whole_maps) (n := 63) (k := 40) (x := "_law_script") (CX := fun _ => L2.CX0) rfl (by decide) (by kernel_rfl) ⟨rfl, by decide, by decide⟩ ?F (fun _ _ _ _ _ z => z)
    intro w mg fa h Y G hmg0
    obtain ⟨K, KX, c⟩ := Y
    have hmg : mg ("law" : PySem.Str) = some (.ref fa) := by
      have e : (HandSHeadRun.topDef (OpenLaw.row PySem.Challenge.rw_yourorder_k18_whole_maps).prog 28).name = ("law" : PySem.Str) := by kernel_rfl
      rw [← e]
      exact hmg0
    obtain ⟨fd, hb, hF⟩ := Ord.factsL (P := (PySem.Challenge.rw_yourorder_k18_whole_maps).prog) (w := w) KX G hmg c
    refine ⟨K, KX, fd, Ord.tfL.map (He.cT K), _, fun p hp => ?_, fun p hp => ?_, fun p hp => ?_, hb, fun H a ns hl hbits hT hS => ?_, hF⟩
    · obtain ⟨z, hz, rfl⟩ := List.mem_map.mp hp
      exact c.empty z hz
    · obtain ⟨z, hz, rfl⟩ := List.mem_map.mp hp
      exact c.out z hz
    · obtain ⟨z, hz, rfl⟩ := List.mem_map.mp hp
      exact PySem.W.codeHd_of_K KX (c.hd z hz)
    · exact ⟨a, ns, rfl, hS, hl, hT (He.cT K ("law", none)) (List.mem_map.mpr ⟨("law", none), by simp [Ord.tfL], rfl⟩), fun _ => rfl⟩
#print axioms PySem.Challenge.cw_yourorder_k18_whole_maps_holds


