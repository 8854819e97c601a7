import PyProof.Rows.All
import Wide.All
import OpenK.AllK
import Wide.FinOn
import HandS.ForExc
import KE.KLam
import HandS.Comp
import HandS.Lambda
import HandS.Nested
import HandS.Deep
import HandS.Wide
import HandS.Iter
import HandS.TryOnly
import HandS.ExcOwn
import HandS.WordsExc
import HandS.ExcValue
import HandS.ExcIs
import HandS.ExcBuiltin
import KE.KExcStr
import HandS.IsInst
import HandS.Conv
import HandS.Text
import HandS.More
import HandS.Head0
import HandS.Head1
import HandS.Head2
import HandS.HeadHook1
import HandS.HeadHook2
import HandS.HeadHook3
import HandS.HeadHook4
import HandS.HeadWalk
import HandS.EndTab
import PySem.Challenge.RW_yourorder_k10_refusals_apart
set_option Elab.async false
set_option linter.all false
set_option maxRecDepth 100000
set_option maxHeartbeats 4000000
namespace Ord
open PySem PySem.Spec PyProof.Rows L2
def top (i : Nat) : Stmt := PySem.Challenge.pw_yourorder_k10_refusals_apart.main.body.getD i (.Pass ⟨0, 0, 0, 0⟩)
abbrev st__wall : Stmt := top 0
abbrev st_OrderError : Stmt := top 2
abbrev st_NoElement : Stmt := top 3
abbrev st_NoPlace : Stmt := top 4
abbrev st_sunk : Stmt := top 6
abbrev st_pop : Stmt := top 7
abbrev st_Node : Stmt := top 9
abbrev st_Node___init__ : Stmt := inClass (top 9) 0
abbrev st_level_of : Stmt := top 10
abbrev st_many_of : Stmt := top 11
abbrev st_lean : Stmt := top 12
abbrev st_right_up : Stmt := top 13
abbrev st_left_up : Stmt := top 14
abbrev st_even : Stmt := top 15
abbrev st_with_key : Stmt := top 16
abbrev st_Map : Stmt := top 17
abbrev st_Map___init__ : Stmt := inClass (top 17) 0
abbrev st_Map_size : Stmt := inClass (top 17) 1
abbrev st_Map_put : Stmt := inClass (top 17) 2
abbrev st_Map_drop : Stmt := inClass (top 17) 3
abbrev st_Map_found : Stmt := inClass (top 17) 4
abbrev st_Map_get : Stmt := inClass (top 17) 5
abbrev st_Map_has : Stmt := inClass (top 17) 6
abbrev st_Map_rank : Stmt := inClass (top 17) 7
abbrev st_Map_at : Stmt := inClass (top 17) 8
abbrev st_Map_pairs : Stmt := inClass (top 17) 9
abbrev st_Map_copy : Stmt := inClass (top 17) 10
abbrev st_merged : Stmt := top 19
abbrev st_stable : Stmt := top 20
abbrev st_least : Stmt := top 22
abbrev st_paired : Stmt := top 23
abbrev st_ends : Stmt := top 24
abbrev st_nth : Stmt := top 25
abbrev st__law_cell : Stmt := top 27
abbrev st__law_drawn : Stmt := top 28
abbrev st__law_word : Stmt := top 29
abbrev st__law_ask : Stmt := top 30
abbrev st_law : Stmt := top 31
end Ord

/-! The closure layer: lambdas with parameters and captured cells, handed to defs and called there. -/
namespace Ord
open PySem PySem.Spec PyProof.Rows L2 LamX

/-! ### a thing that is known to the object -/
abbrev Fz (o : Obj) : HO := .frz o (.ext fun _ => True)
theorem fz_ok {P : Program} {w : World} {H : Hp} {h : Heap} {a : Addr} {o : Obj} (e : h.get? a = some o) : ObjOk P w H h a (Fz o) :=
  ⟨e, True.intro, ⟨o, e⟩, fun _ _ _ _ => True.intro⟩
theorem fz_at {P : Program} {w : World} {H : Hp} {h : Heap} {a : Addr} {o : Obj} (hok : HOk P w H h) (e : H a = some (Fz o)) : h.get? a = some o := (hok a _ e).1
theorem upd_none {H : Hp} {a b : Addr} {o : HO} (e : upd H a o b = Option.none) : H b = Option.none := by
  unfold upd at e
  split at e
  · cases e
  · exact e

/-! ### a lambda is made -/
section
variable {X : Cx} {pins : List (Addr × Obj)} {σ : L2.St} {H : Hp} {s : Shared}
theorem inv_fz {o : Obj} {t' : Nat} (I : Inv X pins σ H s) (hf : o.isFreed = false) : Inv X pins σ (upd H s.heap.objs.size (Fz o)) { s with heap := s.heap.push o, toks := t' } :=
  I.laid (a := s.heap.objs.size) (fun b u e => Heap.get?_push_of_some _ e) (Nat.le_refl _) (fz_ok (Heap.get?_push_size _ hf))
theorem lam_make3 {T : List (Addr × Str)} {c P : Addr} {params : Arguments} {body : Expr} {scope : Scope} {pos : Pos} {E : Value → Shared → Prop} {Q : Value → Shared → Prop} (I : Inv X pins σ H s) (TB : TabB X.base X.mg c P) (hcode : X.env.code = .ref c)
    (hm : (P, X.env.qual ++ "<lambda>") ∈ T) (hu : ∀ p ∈ T, p.1 = P → p.2 = X.env.qual ++ "<lambda>") (hT : Tabs T H) (hdef : defaultsOf params X.env = ([], [])) (hfree : ∀ y ∈ scope.names, y.2 = .free → ∃ c, X.env.cells.lookup y.1 = some c)
    (h : ∀ (f c' : Addr) (pm ctv : Value) (H1 : Hp) (s' : Shared), Inv X pins σ H1 s' → ExtN H H1 → (∀ b, H1 b = Option.none → H b = Option.none) → Tabs T H1 → H f = none →
      H1 f = some (Fz (PySem.W.kla_obj "<lambda>" (X.env.qual ++ "<lambda>") params body scope (cloFrom X.env.cells scope.names []) pm c' ctv)) → H1 c' = some (CodeO c' (X.env.qual ++ "<lambda>")) → Q (.ref f) s') :
    wpAny (model X.prog X.w) X.A (eval (.Lambda params body scope pos) X.env) Q E s := by
  obtain ⟨ps, hP, ht, ha⟩ := hT _ hm
  refine PySem.W.kla_eval hdef ?_
  have bP : s.heap.BuiltinsAt X.mg P := TB.bm.keeps I.bk
  have hP' : s.heap.get? P = some { cls := .none, data := .fields ps } := I.hok P _ hP
  cases hc : codeAmong pos ps.toList with
  | none =>
    refine PySem.W.kla_makeFunction (mg := X.mg) (c := c) (P := P) (ps := ps) (closure_ok hfree) I.ok.glob (I.mod.glob.keeps I.bk) hcode (TB.code.keeps I.bk) hP' ht hc TB.gP bP fun c' ctv h' tk hx hge hlt hrec htb => ?_
    obtain ⟨c2, oc, vs, t, e2, hoc, hd, hv⟩ := hrec
    cases e2
    have nC : H c' = none := I.hok.fresh hge
    have I1 := inv_table (t' := tk) (more := #[rawInt pos.line, rawInt pos.col, .ref c']) (h' := h') I hP (fun b o hb e => hx b o hb e) htb hge ⟨oc, vs, t, hoc, hd, hv⟩
    have hE : ExtN H (upd (upd H P (.tbl (ps ++ #[rawInt pos.line, rawInt pos.col, .ref c']))) c' (CodeO c' (X.env.qual ++ "<lambda>"))) := fun b o e n => by
      rw [upd_ne (ne_of_none e nC), upd_ne (fun z => n ps (Option.some.inj (e.symm.trans (by rw [z]; exact hP))))]
      exact e
    have eL : (ps ++ #[rawInt pos.line, rawInt pos.col, .ref c']).toList = ps.toList ++ [rawInt pos.line, rawInt pos.col, .ref c'] := by simp
    have T1 : Tabs T (upd (upd H P (.tbl (ps ++ #[rawInt pos.line, rawInt pos.col, .ref c']))) c' (CodeO c' (X.env.qual ++ "<lambda>"))) := fun p hp => by
      by_cases hb : p.1 = P
      · rw [hu p hp hb, hb]
        refine ⟨_, by rw [upd_ne (ne_of_none hP nC), upd_same], by rw [eL]; exact PySem.TriplesOk_snoc _ _ _ _ ht, fun p' cv hcv => ?_⟩
        rw [eL] at hcv
        rcases among_app _ ht hcv with z | z
        · obtain ⟨c0, e1, e2⟩ := ha p' cv z
          exact ⟨c0, e1, hE _ _ e2 codeO_ne⟩
        · exact ⟨c', z, upd_same⟩
      · obtain ⟨ps', a1, a2, a3⟩ := hT p hp
        refine ⟨ps', by rw [upd_ne (ne_of_none a1 nC), upd_ne hb]; exact a1, a2, fun p' cv hcv => ?_⟩
        obtain ⟨c0, e1, e2⟩ := a3 p' cv hcv
        exact ⟨c0, e1, hE _ _ e2 codeO_ne⟩
    have nF := I1.hok.fresh (Nat.le_refl _)
    have I2 := inv_fz (o := PySem.W.kla_obj "<lambda>" (X.env.qual ++ "<lambda>") params body scope (cloFrom X.env.cells scope.names []) ((X.mg "__name__").getD .none) c' ctv) (t' := tk) I1 rfl
    refine h h'.objs.size c' _ ctv _ _ I2 (fun b o e n => ?_) (fun b e => upd_none (upd_none (upd_none e))) (T1.ext fun b o e => ?_) (I.hok.fresh (Nat.le_trans hge (Nat.le_of_lt hlt))) upd_same ?_
    · have e1 := hE b o e n
      exact (upd_ne (ne_of_none e1 nF)).trans e1
    · exact (upd_ne (ne_of_none e nF)).trans e
    · exact (upd_ne (Nat.ne_of_lt hlt)).trans upd_same
  | some cv =>
    obtain ⟨c', e, hco⟩ := ha pos cv hc
    subst e
    refine PySem.W.kla_makeFunctionHit (mg := X.mg) (c := c) (P := P) (ps := ps) (closure_ok hfree) I.ok.glob (I.mod.glob.keeps I.bk) hcode (TB.code.keeps I.bk) hP' ht hc bP fun ctv h' tk hx hsz => ?_
    have I1 : Inv X pins σ H { s with heap := h', toks := tk } := I.kept hx
    have nF : H h'.objs.size = none := I1.hok.fresh (Nat.le_refl _)
    have I2 := inv_fz (o := PySem.W.kla_obj "<lambda>" (X.env.qual ++ "<lambda>") params body scope (cloFrom X.env.cells scope.names []) ((X.mg "__name__").getD .none) c' ctv) (t' := tk) I1 rfl
    refine h h'.objs.size c' _ ctv _ _ I2 (fun b o e n => ?_) (fun b e => upd_none e) (hT.ext fun b o e => ?_) nF upd_same ?_
    · exact (upd_ne (ne_of_none e nF)).trans e
    · exact (upd_ne (ne_of_none e nF)).trans e
    · exact (upd_ne (ne_of_none hco nF)).trans hco
end
/-- the reading of a lambda's making -/
def tLamV (T : List (Addr × Str)) (mk : Value → Addr → Value → Obj) (q : Str) : TE := fun _ H Q => Tabs T H ∧ ∀ (f c' : Addr) (pm ctv : Value) (H1 : Hp), ExtN H H1 → (∀ b, H1 b = Option.none → H b = Option.none) → Tabs T H1 → H f = none →
  H1 f = some (Fz (mk pm c' ctv)) → H1 c' = some (CodeO c' q) → Q (.ref f) H1
theorem pe_lam {X : Cx} {T : List (Addr × Str)} {c P : Addr} {params : Arguments} {body : Expr} {scope : Scope} {pos : Pos} {q : Str} (hq : X.env.qual ++ "<lambda>" = q) (TB : TabB X.base X.mg c P) (hcode : X.env.code = .ref c)
    (hm : (P, q) ∈ T) (hu : ∀ p ∈ T, p.1 = P → p.2 = q) (hdef : defaultsOf params X.env = ([], []))
    (hfree : ∀ y ∈ scope.names, y.2 = .free → X.env.scope.names.lookup y.1 = some .cell ∨ X.env.scope.names.lookup y.1 = some .free) :
    PE X (.Lambda params body scope pos) (tLamV T (fun pm c' ctv => PySem.W.kla_obj "<lambda>" q params body scope (cloFrom X.env.cells scope.names []) pm c' ctv) q) := by
  subst hq
  refine ⟨fun pins s σ H Q I h => ?_⟩
  obtain ⟨hT, h⟩ := h
  exact lam_make3 I TB hcode hm hu hT hdef (fun y hy e => (hfree y hy e).elim (fun z => I.ok.has _ (.inl z)) fun z => I.ok.has _ (.inr z)) fun f c' pm ctv H1 s' I1 eN nn T1 f0 f1 c1 =>
    ⟨.ref f, H1, I1, rfl, h f c' pm ctv H1 eN nn T1 f0 f1 c1⟩

/-! ### a function value and its promise -/
def IsFz (H : Hp) (f : Addr) : Prop := ∃ (oc : Value) (od : Option Addr) (fd : FuncData) (sl : Array (Option Value)), H f = some (Fz ⟨oc, od, .func fd, sl⟩)
theorem fnAt_fz {P : Program} {w : World} {H : Hp} {h : Heap} {f : Addr} (hok : HOk P w H h) (e : IsFz H f) : PySem.W.FnAt f h := by
  obtain ⟨oc, od, fd, sl, e⟩ := e
  exact ⟨oc, od, fd, sl, fz_at hok e⟩
/-- calling the function at f with positional arguments keeps sp -/
structure FnV (P : Program) (w : World) (K : PySem.W.Frag) (mg : Str → Option Value) (base : Heap) (k : Nat) (f : Addr) (sp : Sp) : Prop where
  run : ∀ (A : Around) (outer : List Env) (s : Shared) (H : Hp) (us : List Value) (vs : List V) (Q : VK), Room k A → Env0 P w K mg base A outer s H → Vals vs us → sp vs H Q E0 →
    codeAny (model P w) A (.call (.ref f) ⟨us, []⟩) (CR CX0 outer P w H s Q E0) s
theorem FnV.mono {P : Program} {w : World} {K : PySem.W.Frag} {mg : Str → Option Value} {base : Heap} {j k : Nat} {f : Addr} {sp : Sp} (F : FnV P w K mg base j f sp) (h : j ≤ k) : FnV P w K mg base k f sp :=
  ⟨fun A outer s H us vs Q hr => F.run A outer s H us vs Q (hr.mono h)⟩
section
variable {X : Cx} {k : Nat} {f : Addr} {sp : Sp} {e : Expr} {es : List Expr} {t : TA} {x : Str} {p pos : Pos} {i : Nat}
theorem run_v {pins : List (Addr × Obj)} {σ : L2.St} {H : Hp} {s : Shared} {Q : VK} {us : List Value} {vs : List V} (F : FnV X.prog X.w X.K X.mg X.base k f sp) (hr : Room k X.A) (I : Inv X pins σ H s) (r : Vals vs us) (h : sp vs H Q E0) :
    wpAny (model X.prog X.w) X.A (call (.ref f) us) (EP X pins σ Q) X.xe s := by
  refine wpAny_call (codeAny_mono (F.run X.A X.stack s H us vs Q hr I.env0 r h) fun r s' hq => ?_)
  cases r with
  | error e => exact False.elim hq
  | ok fl =>
    cases fl with
    | ret u => exact I.after hq
    | next => exact False.elim hq
    | brk => exact False.elim hq
    | cont => exact False.elim hq
/-- x(e, ..), x a name of the def that holds a function -/
def tCallV (i : Nat) (f : Addr) (sp : Sp) (t : TA) : TE := fun σ H Q => σ[i]? = some (some (.ref f)) ∧ IsFz H f ∧ t σ H fun vs H1 => IsFz H1 f ∧ sp vs H1 Q E0
theorem pe_callV (F : FnV X.prog X.w X.K X.mg X.base k f sp) (hr : Room k X.A) (ha : PA X (e :: es) t) (hN : X.N[i]? = some x := by rfl) (hv : Vis X.env.scope x := by first | exact Or.inl rfl | exact Or.inr (Or.inl rfl) | exact Or.inr (Or.inr rfl))
    (hd : (x == ("__debug__" : Str)) = false := by decide) (hcd : (x == ("__classdict__" : Str)) = false := by decide)
    (he : starEach (e :: es) X.env = (false, eval e X.env) :: starEach es X.env := by rfl) (hpl : (backTo pos (starEach es X.env)).any (·.1) = false := by rfl) :
    PE X (.Call (.Name x p) (e :: es) [] pos) (tCallV i f sp t) := by
  refine ⟨fun pins s σ H Q I h => ?_⟩
  obtain ⟨hs, hf, ht⟩ := h
  refine wpAny_Call_Name_kw (thn ((pe_var (pos := p) hN hv hd hcd).run pins s σ H (fun v H1 => v = .ref f ∧ H1 = H) I ⟨.ref f, hs, rfl, rfl⟩) fun u s1 ⟨v, H1, I1, r1, q1⟩ => ?_)
  obtain ⟨ev, eH⟩ := q1
  subst ev
  rw [eH] at I1
  obtain rfl : u = Value.ref f := r1
  exact PySem.W.callWith_F (first := []) (fnAt_fz I1.hok hf) (thn (ha.run pos pins s1 σ H _ I1 ht) fun us s2 ⟨vs, H2, I2, r, h1, q⟩ => ⟨fnAt_fz I2.hok h1, run_v F hr I2 r q⟩) he hpl
end
/-! ### o.f(e, ..), f a field that holds a function -/
theorem method_field {prog : Program} {w : World} {A : Around} {s : Shared} {K : PySem.W.Frag} {x C : Addr} {ox : Obj} {od : Option Obj} {name : Str} {pl : Sem Bool} {E : Value → Shared → Prop} {Q : Value × List Value → Shared → Prop}
    (X : K.In s.heap) (I : PySem.W.InstAt s.heap x ox C od) (hga : PySem.W.findIn K (.ref C) "__getattribute__" = some (some (.builtin "object.__getattribute__"))) (hk : PySem.W.findIn K (.ref C) "__getattr__" = some none)
    (hf : PySem.W.findIn K (.ref C) name = some none) (h : wpAny (model prog w) A (getAttr (.ref x) name) (fun v s' => Q (v, []) s') E s) :
    wpAny (model prog w) A (getMethod (.ref x) name pl) Q E s := by
  have hcan := PySem.F.canon_object_ga
  unfold getMethod specialOf
  refine wpAny_bind (wpAny_bind (I.type.here ((PySem.W.looks_findIn X hga).here ?_)))
  dsimp only
  rw [hcan, if_neg (by decide)]
  refine wpAny_bind (wpAny_bind (I.type.here ((PySem.W.looks_findIn X hk).here ?_)))
  refine wpAny_bind (wpAny_bind (I.type.here ((PySem.W.looks_findIn X hf).here ?_)))
  exact wpAny_bind (wpAny_mono h (fun v s' q => wpAny_pure q) fun _ _ z => z)
theorem getfn_ok {X : Cx} {pins : List (Addr × Obj)} {σ : L2.St} {H : Hp} {s : Shared} {a C dx f : Addr} {fs : List (Str × V)} {m : Str} {pl : Sem Bool} {E : Value → Shared → Prop} {Q : Value × List Value → Shared → Prop} (I : Inv X pins σ H s) (e : H a = some (.ins C dx fs)) (c : Cls X.K C) (n : NoAttr X.K C m)
    (l : fs.lookup m = some (.ref f)) (h : ∀ s', Inv X pins σ H s' → Q (.ref f, []) s') : wpAny (model X.prog X.w) X.A (getMethod (.ref a) m pl) Q E s := by
  obtain ⟨mA, O, r, _, _, _⟩ := ins_get I.hok e
  obtain ⟨od, J, hl⟩ := O.look
  refine method_field I.kIn J (PySem.W.plainGet_of (c.get m)).1 (PySem.W.plainGet_of (c.get m)).2 n ?_
  refine getattr_ok I e c n l fun u s' I' ru => ?_
  obtain rfl : u = Value.ref f := ru
  exact h s' I'
section
variable {X : Cx} {k : Nat} {f C : Addr} {sp : Sp} {o e : Expr} {es : List Expr} {ta : TE} {t : TA} {m : Str} {apos pos : Pos}
def tCallF (K : PySem.W.Frag) (m : Str) (f : Addr) (sp : Sp) (ta : TE) (t : TA) : TE := fun σ H Q => ta σ H fun x H1 => ∃ a C dx fs, x = .ref a ∧ H1 a = some (.ins C dx fs) ∧ Cls K C ∧ NoAttr K C m ∧ fs.lookup m = some (.ref f) ∧ IsFz H1 f ∧
  t σ H1 fun vs H2 => IsFz H2 f ∧ sp vs H2 Q E0
theorem pe_callF {pl : Sem Bool} (he : PE X o ta) (F : FnV X.prog X.w X.K X.mg X.base k f sp) (hr : Room k X.A) (ha : PA X (e :: es) t)
    (hst : starEach (e :: es) X.env = (false, eval e X.env) :: starEach es X.env := by rfl) (hpl : (backTo pos (starEach es X.env)).any (·.1) = false := by rfl)
    (ht : eval (.Call (.Attribute o m apos) (e :: es) [] pos) X.env = (do
      let ov ← eval o X.env
      standAt apos.atName
      let (f, first) ← holding [ov] (getMethod ov m pl)
      callWith pos f first (backTo pos (starEach (e :: es) X.env)) (backToKw pos (keywordEach [] X.env))) := by rfl) :
    PE X (.Call (.Attribute o m apos) (e :: es) [] pos) (tCallF X.K m f sp ta t) := by
  refine ⟨fun pins s σ H Q I h => ?_⟩
  refine PySem.W.methodCall_KW (pl := pl) (thn (he.run pins s σ H _ I h) fun u s1 ⟨x, H1, I1, rx, a, C, dx, fs, ex, ea, c, n, l, hf, q⟩ => ?_) ht
  subst ex
  obtain rfl : u = Value.ref a := rx
  refine getfn_ok I1 ea c n l fun s1' I1' => ?_
  exact PySem.W.callWith_F (first := []) (fnAt_fz I1'.hok hf) (thn (ha.run pos pins s1' σ H1 _ I1' q) fun us s2 ⟨vs, H2, I2, r, h1, q2⟩ => ⟨fnAt_fz I2.hok h1, run_v F hr I2 r q2⟩) hst hpl
end

/-! ### the maker's cells, lent for a call -/
def strip (cs : List (Str × Addr)) (H : Hp) : Hp := fun b => if b ∈ cs.map (·.2) then none else H b
theorem strip_out {cs : List (Str × Addr)} {H : Hp} {b : Addr} (h : b ∉ cs.map (·.2)) : strip cs H b = H b := if_neg h
theorem strip_in {cs : List (Str × Addr)} {H : Hp} {b : Addr} (h : b ∈ cs.map (·.2)) : strip cs H b = none := if_pos h
theorem strip_some {cs : List (Str × Addr)} {H : Hp} {b : Addr} {o : HO} (h : strip cs H b = some o) : b ∉ cs.map (·.2) ∧ H b = some o := by
  by_cases hb : b ∈ cs.map (·.2)
  · rw [strip_in hb] at h
    cases h
  · rw [strip_out hb] at h
    exact ⟨hb, h⟩
/-- the cell at c holds v -/
def CellV (H : Hp) (c : Addr) (v : V) : Prop := ∃ (o : Obj) (u : Value), H c = some (Fz o) ∧ o.data = .cell (some u) ∧ RelV v u
/-- H2 is H with the cells cs lent; what the slots of captured names hold stands in them -/
structure Lent (X : Cx) (σ : L2.St) (H H2 : Hp) : Prop where
  out : ∀ b, b ∉ X.env.cells.map (·.2) → H2 b = H b
  none_ : ∀ b, b ∈ X.env.cells.map (·.2) → H b = none
  fz : ∀ b, b ∈ X.env.cells.map (·.2) → ∃ (o : Obj) (v : Option Value), H2 b = some (Fz o) ∧ o.data = .cell v
  inj : ∀ x y c, X.env.cells.lookup x = some c → X.env.cells.lookup y = some c → x = y
  has : ∀ x, (X.env.scope.names.lookup x = some .cell ∨ X.env.scope.names.lookup x = some .free) → ∃ c, X.env.cells.lookup x = some c
  val : ∀ (i : Nat) (x : Str) (v : V), X.N[i]? = some x → σ[i]? = some (some v) → (X.env.scope.names.lookup x = some .cell ∨ X.env.scope.names.lookup x = some .free) → ∃ c, X.env.cells.lookup x = some c ∧ CellV H2 c v
theorem Lent.keep {X : Cx} {σ : L2.St} {H H2 : Hp} (L : Lent X σ H H2) {b : Addr} {o : HO} (e : H b = some o) : H2 b = some o := by
  have hb : b ∉ X.env.cells.map (·.2) := fun z => by
    rw [L.none_ b z] at e
    cases e
  rw [L.out b hb]
  exact e
theorem lookup_mem2 {cs : List (Str × Addr)} {x : Str} {c : Addr} (e : cs.lookup x = some c) : c ∈ cs.map (·.2) := List.mem_map.mpr ⟨_, PySem.mem_of_lookup e, rfl⟩
/-- no name stands twice among the cells -/
def UniqC (cs : List (Str × Addr)) : Prop := ∀ b, b ∈ cs.map (·.2) → ∃ x, cs.lookup x = some b
section
variable {X : Cx} {pins : List (Addr × Obj)} {σ : L2.St} {H : Hp} {s s' : Shared}
def lendH (X : Cx) (s : Shared) (H : Hp) : Hp := fun b => if b ∈ X.env.cells.map (·.2) then (s.heap.get? b).map Fz else H b
theorem cell_at (I : Inv X pins σ H s) (un : UniqC X.env.cells) {b : Addr} (hb : b ∈ X.env.cells.map (·.2)) : H b = none ∧ ∃ (o : Obj) (v : Option Value), s.heap.get? b = some o ∧ o.data = .cell v := by
  obtain ⟨x, hx⟩ := un b hb
  obtain ⟨v, o, ho, hd⟩ := I.cell x b hx
  exact ⟨I.freeC x b hx, o, v, ho, hd⟩
theorem lendH_in (I : Inv X pins σ H s) {b : Addr} {o : Obj} (hb : b ∈ X.env.cells.map (·.2)) (ho : s.heap.get? b = some o) : lendH X s H b = some (Fz o) := by
  unfold lendH
  rw [if_pos hb, ho]
  rfl
theorem lendH_out {b : Addr} (hb : b ∉ X.env.cells.map (·.2)) : lendH X s H b = H b := if_neg hb
theorem lendH_ok (I : Inv X pins σ H s) (un : UniqC X.env.cells) : HOk X.prog X.w (lendH X s H) s.heap := by
  intro b u e
  by_cases hb : b ∈ X.env.cells.map (·.2)
  · obtain ⟨_, o, v, ho, _⟩ := cell_at I un hb
    rw [lendH_in I hb ho] at e
    cases e
    exact fz_ok ho
  · rw [lendH_out hb] at e
    have kp : ∀ c y, H c = some y → lendH X s H c = some y := fun c y z => by
      have hc : c ∉ X.env.cells.map (·.2) := fun q => by
        rw [(cell_at I un q).1] at z
        cases z
      rw [lendH_out hc]
      exact z
    exact (I.hok b u e).stay (fun _ _ _ q => q) (fun c q => kp c _ q) fun c xs q => kp c _ q
theorem lendH_lent (I : Inv X pins σ H s) (un : UniqC X.env.cells) : Lent X σ H (lendH X s H) := by
  refine ⟨fun b hb => lendH_out hb, fun b hb => (cell_at I un hb).1, fun b hb => ?_, I.ok.inj, fun x hk => I.ok.has x hk, fun i x v hN hs hk => ?_⟩
  · obtain ⟨_, o, v, ho, hd⟩ := cell_at I un hb
    exact ⟨o, v, lendH_in I hb ho, hd⟩
  · obtain ⟨m, hn, hl⟩ := I.loc
    obtain ⟨u, r, l⟩ := hl i x v hN hs (hk.elim (fun z => .inr (.inl z)) fun z => .inr (.inr z))
    rcases l with ⟨z, _⟩ | ⟨_, c, hc, o, ho, hd⟩
    · have z' : X.env.scope.names.lookup x = some .local := z
      rcases hk with k | k <;> rw [k] at z' <;> cases z'
    · exact ⟨c, hc, o, u, lendH_in I (lookup_mem2 hc) ho, hd, r⟩
theorem lend_env0 (I : Inv X pins σ H s) (un : UniqC X.env.cells) (hfn : ∀ x, X.fn x = true) : Env0 X.prog X.w X.K X.mg X.base X.A X.stack s (lendH X s H) := by
  have e0 := I.env0
  have ncell : ∀ b o, X.base.get? b = some o → b ∉ X.env.cells.map (·.2) := fun b o e hb => by
    obtain ⟨x, hx⟩ := un b hb
    exact absurd (Nat.lt_of_lt_of_le (Heap.lt_size (I.ok.bs b o e).1) (I.ok.cab x b (hfn x) hx)) (Nat.lt_irrefl _)
  refine ⟨e0.frames, e0.mod, fun b o e => ⟨(e0.bs b o e).1, by rw [lendH_out (ncell b o e)]; exact (e0.bs b o e).2⟩, e0.bsz, e0.funs, fun b hb => ?_, lendH_ok I un, e0.bare⟩
  have nb : b ∉ X.env.cells.map (·.2) := fun z => by
    rcases List.mem_cons.mp (I.stkSub b hb) with e | e
    · obtain ⟨x, hx⟩ := un b z
      exact I.cne x b hx e
    · obtain ⟨x, hx⟩ := un b z
      obtain ⟨_, o, ho, _⟩ := I.ok.funs.mem e
      exact absurd (Nat.lt_of_lt_of_le (Heap.lt_size ho) (I.ok.cab x b (hfn x) hx)) (Nat.lt_irrefl _)
  rw [lendH_out nb]
  exact e0.frf b hb
/-- behind a call with the cells lent -/
theorem lent_after {Q : VK} {u : Value} (I : Inv X pins σ H s) (un : UniqC X.env.cells) (h : CE X.stack X.prog X.w (lendH X s H) s (fun v H3 => Q v (strip X.env.cells H3)) u s') : EP X pins σ Q u s' := by
  obtain ⟨v, H3, os, bare, U, hok, r, q⟩ := h
  have cellIn : ∀ b, b ∈ X.env.cells.map (·.2) → ∃ o, s.heap.get? b = some o ∧ H3 b = some (Fz o) ∧ s'.heap.get? b = some o := fun b hb => by
    obtain ⟨_, o, v, ho, _⟩ := cell_at I un hb
    have e3 := U.frzs b o _ (lendH_in I hb ho)
    exact ⟨o, ho, e3, fz_at hok e3⟩
  have nIn : ∀ b y, H b = some y → b ∉ X.env.cells.map (·.2) := fun b y z q => by
    rw [(cell_at I un q).1] at z
    cases z
  have nFr : ∀ b, b ∈ X.env.cells.map (·.2) → ∀ y, strip X.env.cells H3 b ≠ some y := fun b hb y z => (strip_some z).1 hb
  have U4 : Un (frs X.stack) [] H (strip X.env.cells H3) s.heap s'.heap := by
    refine ⟨fun b o e n hf hx => ?_, fun b o e n hf hx => ?_, fun b o e n hx => ?_, U.there, fun b xs e => ?_, fun b o y e => ?_, fun b ps e => ?_⟩
    · by_cases hb : b ∈ X.env.cells.map (·.2)
      · obtain ⟨o', e1, _, e3⟩ := cellIn b hb
        rw [e] at e1
        cases e1
        exact e3
      · exact U.keep b o e (by rw [lendH_out hb]; exact n) hf hx
    · by_cases hb : b ∈ X.env.cells.map (·.2)
      · obtain ⟨o', e1, _, e3⟩ := cellIn b hb
        rw [e] at e1
        cases e1
        exact ⟨o.slots, e3⟩
      · exact U.slot b o e (by rw [lendH_out hb]; exact n) hf hx
    · by_cases hb : b ∈ X.env.cells.map (·.2)
      · exact strip_in hb
      · rw [strip_out hb]
        exact U.free b o e (by rw [lendH_out hb]; exact n) hx
    · have hb := nIn b _ e
      rw [strip_out hb]
      exact U.tups b xs (by rw [lendH_out hb]; exact e)
    · have hb := nIn b _ e
      rw [strip_out hb]
      exact U.frzs b o y (by rw [lendH_out hb]; exact e)
    · have hb := nIn b _ e
      rw [strip_out hb]
      exact U.tbls b ps (by rw [lendH_out hb]; exact e)
  have hok4 : HOk X.prog X.w (strip X.env.cells H3) s'.heap := by
    intro b y e
    obtain ⟨hb, e⟩ := strip_some e
    have kp : ∀ c z, H3 c = some z → (∀ o, z ≠ Fz o) → strip X.env.cells H3 c = some z := fun c z hz nz => by
      have hc : c ∉ X.env.cells.map (·.2) := fun q => by
        obtain ⟨o, _, e3, _⟩ := cellIn c q
        rw [e3] at hz
        exact nz o (Option.some.inj hz).symm
      rw [strip_out hc]
      exact hz
    exact (hok b y e).stay (fun _ _ _ q => q) (fun c q => kp c _ q fun o z => by cases z) fun c xs q => kp c _ q fun o z => by cases z
  obtain ⟨hh, g, d, t, os'⟩ := s'
  obtain rfl : os' = s.os := os
  exact ⟨v, strip X.env.cells H3, I.call (h' := hh) (g' := g) (d' := d) (t' := t) (ch := []) U4 hok4 bare (fun b z => absurd z (by simp)), r, q⟩
end
/-! ### calls with the cells lent -/
def lentQ (X : Cx) (Q : VK) : VK := fun v H3 => Q v (strip X.env.cells H3)
def tCallLent (X : Cx) (sp : Sp) (t : TA) : TE := fun σ H Q => t σ H fun vs H1 => ∀ H2, Lent X σ H1 H2 → sp vs H2 (lentQ X Q) E0
def tMethLent (X : Cx) (C : Addr) (m : Str) (sp : Sp) (ta : TE) (t : TA) : TE := fun σ H Q => ta σ H fun x H1 => ∃ a dx fs, x = .ref a ∧ H1 a = some (.ins C dx fs) ∧ fs.lookup m = none ∧
  t σ H1 fun vs H2 => ∀ H3, Lent X σ H2 H3 → sp (x :: vs) H3 (lentQ X Q) E0
section
variable {X : Cx} {k : Nat} {f C : Addr} {fd : FuncData} {ps : List Str} {sp : Sp} {x m : Str} {p pos apos : Pos} {e o : Expr} {es : List Expr} {ta : TE} {t : TA}
theorem run_lent {CX : CXT} {pins : List (Addr × Obj)} {σ : L2.St} {H : Hp} {s : Shared} {Q : VK} {us : List Value} {vs : List V} (F : FnOk X.prog X.w X.K X.mg X.base CX k f fd ps sp) (hr : Room k X.A) (hb : Binds X.K fd ps []) (un : UniqC X.env.cells) (hfn : ∀ x, X.fn x = true)
    (hCX : ∀ H s e s', CX X.stack H s E0 e s' → False) (I : Inv X pins σ H s) (r : Vals vs us) (h : ∀ H2, Lent X σ H H2 → sp vs H2 (lentQ X Q) E0) : wpAny (model X.prog X.w) X.A (call (.ref f) us) (EP X pins σ Q) X.xe s := by
  have hq := h (lendH X s H) (lendH_lent I un)
  have hl : us.length = ps.length := by rw [← r.length]; exact F.len _ _ _ _ hq
  have hbt := hb s us I.kIn (by rw [List.append_nil]; exact hl)
  rw [List.append_nil] at hbt
  refine wpAny_call (codeAny_mono (F.run X.A X.stack s (lendH X s H) ⟨us, []⟩ us vs _ E0 hr (lend_env0 I un hfn) hbt r hq) fun r s' hq => ?_)
  cases r with
  | error e => exact (hCX _ _ _ _ hq).elim
  | ok fl =>
    cases fl with
    | ret u => exact lent_after I un hq
    | next => exact False.elim hq
    | brk => exact False.elim hq
    | cont => exact False.elim hq
theorem pe_callLent {CX : CXT} (F : FnOk X.prog X.w X.K X.mg X.base CX k f fd ps sp) (hr : Room k X.A) (hg : Gl X x) (hm : X.mg x = some (.ref f)) (hk : PySem.W.keepIn X.K (.ref f) = true) (hb : Binds X.K fd ps []) (un : UniqC X.env.cells) (hfn : ∀ x, X.fn x = true)
    (hCX : ∀ H s e s', CX X.stack H s E0 e s' → False) (ha : PA X (e :: es) t) (hdb : (x == ("__debug__" : Str)) = false := by decide) (he : starEach (e :: es) X.env = (false, eval e X.env) :: starEach es X.env := by rfl) (hpl : (backTo pos (starEach es X.env)).any (·.1) = false := by rfl) :
    PE X (.Call (.Name x p) (e :: es) [] pos) (tCallLent X sp t) := by
  refine ⟨fun pins s σ H Q I h => ?_⟩
  refine wpAny_Call_Name_kw (ld_glob I hg hm ?_ hdb)
  refine PySem.W.callWith_K (h₀ := X.base) I.ok.mod.kin hk (thn (ha.run pos pins s σ H _ I h) fun us s1 ⟨vs, H1, I1, r, q⟩ => ⟨I1.kIn, ?_⟩) he hpl
  exact run_lent F hr hb un hfn hCX I1 r q
theorem pe_methLent {CX : CXT} {pl : Sem Bool} (he : PE X o ta) (c : Cls X.K C) (hm : Meth X.K C m f) (F : FnOk X.prog X.w X.K X.mg X.base CX k f fd ps sp) (hr : Room k X.A) (hb : Binds X.K fd ps []) (un : UniqC X.env.cells) (hfn : ∀ x, X.fn x = true)
    (hCX : ∀ H s e s', CX X.stack H s E0 e s' → False) (ha : PA X (e :: es) t)
    (hst : starEach (e :: es) X.env = (false, eval e X.env) :: starEach es X.env := by rfl) (hpl : (backTo pos (starEach es X.env)).any (·.1) = false := by rfl)
    (ht : eval (.Call (.Attribute o m apos) (e :: es) [] pos) X.env = (do
      let ov ← eval o X.env
      standAt apos.atName
      let (f, first) ← holding [ov] (getMethod ov m pl)
      callWith pos f first (backTo pos (starEach (e :: es) X.env)) (backToKw pos (keywordEach [] X.env))) := by rfl) :
    PE X (.Call (.Attribute o m apos) (e :: es) [] pos) (tMethLent X C m sp ta t) := by
  refine ⟨fun pins s σ H Q I h => ?_⟩
  refine PySem.W.methodCall_KW (pl := pl) (thn (he.run pins s σ H _ I h) fun u s1 ⟨x, H1, I1, rx, a, dx, fs, ex, ea, l, q⟩ => ?_) ht
  subst ex
  obtain rfl : u = Value.ref a := rx
  refine getmeth_ok I1 ea c hm l ?_
  refine PySem.W.callWith_K (first := [.ref a]) (h₀ := X.base) I.ok.mod.kin hm.kp (thn (ha.run pos pins s1 σ H1 _ I1 q) fun us s2 ⟨vs, H2, I2, r, q2⟩ => ⟨I2.kIn, ?_⟩) hst hpl
  exact run_lent (us := .ref a :: us) (vs := .ref a :: vs) F hr hb un hfn hCX I2 (.cons rfl r) q2
end

/-! ### a lambda's body -/
/-- the captured cells: lent, and what they hold -/
structure ClosAt (cl : List (Str × Addr)) (fr : List Str) (ws : List (Option V)) (H : Hp) : Prop where
  len : ws.length = fr.length
  all : ∀ b, b ∈ cl.map (·.2) → ∃ (o : Obj) (v : Option Value), H b = some (Fz o) ∧ o.data = .cell v
  inj : ∀ x y c, cl.lookup x = some c → cl.lookup y = some c → x = y
  has : ∀ (i : Nat) (y : Str), fr[i]? = some y → ∃ c, cl.lookup y = some c ∧ ∀ v, ws[i]? = some (some v) → CellV H c v
/-- H' with the cells of H put back -/
def relend (cs : List (Str × Addr)) (H H' : Hp) : Hp := fun b => if b ∈ cs.map (·.2) then H b else H' b
abbrev lamNF (q : Str) (params : Arguments) (scope : Scope) (cl : List (Str × Addr)) (c' : Addr) : NdefX.NF := ⟨"<lambda>", q, params, [], scope, cl, c'⟩
section
variable {P : Program} {w : World} {K : PySem.W.Frag} {mg : Str → Option Value} {base : Heap} {N ps fr : List Str} {k : Nat}
theorem fnv_lam {params : Arguments} {body : Expr} {scope : Scope} {cl : List (Str × Addr)} {pm ctv : Value} {c' f : Addr} {q : Str} {sp : Sp} {ws : List (Option V)} (S : NdefX.NScope N ps fr scope)
    (hb : ∀ us : List Value, us.length = ps.length → bindArgs (PySem.W.kla_fn "<lambda>" q params body scope cl pm (.ref c') ctv) ⟨us, []⟩ = pure (ps.zip us))
    (hsp : ∀ vs H Q, sp vs H Q E0 → vs.length = ps.length ∧ H f = some (Fz (PySem.W.kla_obj "<lambda>" q params body scope cl pm c' ctv)) ∧ H c' = some (CodeO c' q) ∧ ClosAt cl fr ws H)
    (hbody : ∀ (A : Around) (outer : List Env) (s : Shared) (H : Hp) (vs : List V) (Q : VK), Room k (A.deeper (NdefX.envF (lamNF q params scope cl c') f s.heap.objs.size)) → sp vs H Q E0 →
      ∃ t, PE (NdefX.ncx CX0 P w K mg base N (lamNF q params scope cl c') f A outer s (strip cl H) E0).nox body t ∧ t (NdefX.startF N vs ws) (strip cl H) fun v H' => (∀ b, b ∈ cl.map (·.2) → H' b = Option.none) → Q v (relend cl H H')) :
    FnV P w K mg base (k + 1) f sp := by
  refine ⟨fun A outer s H us vs Q hr e0 r h => ?_⟩
  obtain ⟨hl, hf, hc, C⟩ := hsp vs H Q h
  have lim : s.heap.NoLimit := e0.mod.nolimit.keeps fun b o e => (e0.bs b o e).1
  have of1 := fz_at e0.hok hf
  obtain ⟨⟨oc, ys, tq, hoc, hdc, hvc⟩, _, _⟩ := e0.hok c' _ hc
  refine PySem.W.kla_callFunE hr.depth of1 rfl S.co S.gen rfl ⟨c', oc, ys, tq, rfl, hoc, hdc, hvc⟩ ?_
  rw [hb us (by rw [← r.length]; exact hl)]
  refine wpAny_pure (wpAny_newFunctionEnv S.nocell (fun ⟨n, _⟩ hy => S.par n (List.of_mem_zip hy).1) (fun h₁ hns hsb => ⟨lim.fresh _ hsb, ?_⟩) S.kind)
  show codeAny _ _ (.expr body (NdefX.envF (lamNF q params scope cl c') f s.heap.objs.size)) _ _
  have kp : ∀ b o, s.heap.get? b = some o → h₁.get? b = some o := fun b o e => hsb.extBut b o (Nat.ne_of_lt (Heap.lt_size e)) (Heap.get?_push_of_some _ e)
  obtain ⟨t, ht, hq⟩ := hbody A outer s H vs Q (hr.deeper _) h
  -- the state without the captured cells
  have cellAt : ∀ b, b ∈ cl.map (·.2) → ∃ (o : Obj) (v : Option Value), H b = some (Fz o) ∧ s.heap.get? b = some o ∧ o.data = .cell v := fun b hb => by
    obtain ⟨o, v, e, hd⟩ := C.all b hb
    exact ⟨o, v, e, fz_at e0.hok e, hd⟩
  have kS : ∀ c z, H c = some z → (∀ o, z ≠ Fz o) → strip cl H c = some z := fun c z hz nz => by
    have hc : c ∉ cl.map (·.2) := fun q => by
      obtain ⟨o, _, e3, _⟩ := C.all c q
      rw [e3] at hz
      exact nz o (Option.some.inj hz).symm
    rw [strip_out hc]
    exact hz
  have hokS : HOk P w (strip cl H) s.heap := fun b y e => by
    obtain ⟨_, e⟩ := strip_some e
    exact (e0.hok b y e).stay (fun _ _ _ q => q) (fun c q => kS c _ q fun o z => by cases z) fun c xs q => kS c _ q fun o z => by cases z
  have nS : ∀ b, H b = none → strip cl H b = none := fun b e => by
    by_cases hb : b ∈ cl.map (·.2)
    · exact strip_in hb
    · rw [strip_out hb]
      exact e
  have e1 : Env0 P w K mg base A outer s (strip cl H) := ⟨e0.frames, e0.mod, fun b o e => ⟨(e0.bs b o e).1, nS b (e0.bs b o e).2⟩, e0.bsz, e0.funs, fun b hb => nS b (e0.frf b hb), hokS, e0.bare⟩
  have CA : NdefX.CellsAt cl fr ws s.heap (strip cl H) := by
    refine ⟨C.len, fun y c e => ?_, C.inj, fun i y e => ?_⟩
    · obtain ⟨o, v, _, e2, e3⟩ := cellAt c (lookup_mem2 e)
      exact ⟨strip_in (lookup_mem2 e), v, o, e2, e3⟩
    · obtain ⟨c, hc, hv⟩ := C.has i y e
      refine ⟨c, hc, fun v ev => ?_⟩
      obtain ⟨o, u, e2, e3, ru⟩ := hv v ev
      exact ⟨u, ru, o, fz_at e0.hok e2, e3⟩
  have I : Inv (NdefX.ncx CX0 P w K mg base N (lamNF q params scope cl c') f A outer s (strip cl H) E0) [] (NdefX.startF N vs ws) (strip cl H) { s with heap := h₁, toks := s.toks + (ps.zip us).length } :=
    NdefX.inv_startN S hr.hd e1 hl r CA hns kp
  refine PySem.W.kla_codeExpr (wpAny_mono (ht.nox.run [] _ (NdefX.startF N vs ws) (strip cl H) _ I hq) (fun u s' hs => ?_) fun e s' hs => wpAny_mono hs (fun _ _ z => z.elim) fun _ _ z => z.elim)
  obtain ⟨v, H', J, rv, qv⟩ := hs
  have U : Un (frs outer) [] (strip cl H) H' s.heap s'.heap := J.base
  have cellLater : ∀ b, b ∈ cl.map (·.2) → ∃ o, H b = some (Fz o) ∧ s'.heap.get? b = some o := fun b hb => by
    obtain ⟨o, v, e1, e2, _⟩ := cellAt b hb
    refine ⟨o, e1, U.keep b o e2 (strip_in hb) (fun z => ?_) (by simp)⟩
    have := e0.frf b z
    rw [e1] at this
    cases this
  have inR : ∀ b, b ∈ cl.map (·.2) → relend cl H H' b = H b := fun b hb => if_pos hb
  have outR : ∀ b, b ∉ cl.map (·.2) → relend cl H H' b = H' b := fun b hb => if_neg hb
  have fS : ∀ b, b ∈ cl.map (·.2) → H' b = none := fun b hb => by
    obtain ⟨o, v, _, e2, _⟩ := cellAt b hb
    exact U.free b o e2 (strip_in hb) (by simp)
  refine ⟨v, relend cl H H', J.os, J.bare, ⟨fun b o e n hf hx => ?_, fun b o e n hf hx => ?_, fun b o e n hx => ?_, U.there, fun b xs e => ?_, fun b o y e => ?_, fun b ps e => ?_⟩, fun b y e => ?_, rv, qv fS⟩
  · exact U.keep b o e (nS b n) hf hx
  · exact U.slot b o e (nS b n) hf hx
  · by_cases hb : b ∈ cl.map (·.2)
    · rw [inR b hb]
      exact n
    · rw [outR b hb]
      exact U.free b o e (nS b n) hx
  · by_cases hb : b ∈ cl.map (·.2)
    · rw [inR b hb]
      exact e
    · rw [outR b hb]
      exact U.tups b xs (by rw [strip_out hb]; exact e)
  · by_cases hb : b ∈ cl.map (·.2)
    · rw [inR b hb]
      exact e
    · rw [outR b hb]
      exact U.frzs b o y (by rw [strip_out hb]; exact e)
  · by_cases hb : b ∈ cl.map (·.2)
    · rw [inR b hb]
      exact ⟨#[], by rw [e]; simp⟩
    · rw [outR b hb]
      exact U.tbls b ps (by rw [strip_out hb]; exact e)
  · by_cases hb : b ∈ cl.map (·.2)
    · obtain ⟨o, e1, e2⟩ := cellLater b hb
      rw [inR b hb, e1] at e
      cases e
      exact fz_ok e2
    · rw [outR b hb] at e
      have kp2 : ∀ c z, H' c = some z → relend cl H H' c = some z := fun c z hz => by
        have hc : c ∉ cl.map (·.2) := fun q => by
          rw [fS c q] at hz
          cases hz
        rw [outR c hc]
        exact hz
      exact (J.hok b y e).stay (fun _ _ _ q => q) (fun c q => kp2 c _ q) fun c xs q => kp2 c _ q
end
end Ord

namespace Ord
open PySem PySem.Spec PyProof.Rows L2 LamX
/-! ### how heaps follow one another -/
/-- what never changes -/
def Fixed : HO → Prop
  | .tup _ => True
  | .frz _ _ => True
  | .ext _ => True
  | _ => False
/-- the tuples stand -/
def TK (H H' : Hp) : Prop := ∀ b xs, H b = some (.tup xs) → H' b = some (.tup xs)
/-- all but q stands, the tuples stand -/
structure KB (q : Addr) (H H' : Hp) : Prop where
  keep : ∀ b o, b ≠ q → H b = some o → H' b = some o
  tk : TK H H'
/-- q stands, and what never changes -/
def Stay (q : Addr) (H H' : Hp) : Prop := ∀ b o, H b = some o → (b = q ∨ Fixed o) → H' b = some o
theorem TK.refl (H : Hp) : TK H H := fun _ _ h => h
theorem TK.trans {H H1 H2 : Hp} (a : TK H H1) (b : TK H1 H2) : TK H H2 := fun c xs h => b c xs (a c xs h)
theorem KB.refl (q : Addr) (H : Hp) : KB q H H := ⟨fun _ _ _ h => h, TK.refl H⟩
theorem KB.trans {q : Addr} {H H1 H2 : Hp} (a : KB q H H1) (b : KB q H1 H2) : KB q H H2 := ⟨fun c o n h => b.keep c o n (a.keep c o n h), a.tk.trans b.tk⟩
theorem KB.of_same {q : Addr} {H H' : Hp} (s : Same H H') : KB q H H' := ⟨fun b o _ h => s b o h, fun b xs h => s b _ h⟩
theorem KB.new {q p : Addr} {H : Hp} {o : HO} (n : H p = none) : KB q H (upd H p o) := .of_same fun b u e => by rw [upd_ne (ne_of_none e n)]; exact e
/-- p, new since H, is written -/
theorem KB.wr {q p : Addr} {H H' : Hp} {o : HO} (k : KB q H H') (n : H p = none) : KB q H (upd H' p o) :=
  ⟨fun b u hb e => by rw [upd_ne (ne_of_none e n)]; exact k.keep b u hb e, fun b xs e => by rw [upd_ne (ne_of_none e n)]; exact k.tk b xs e⟩
theorem Stay.of_same {q : Addr} {H H' : Hp} (s : Same H H') : Stay q H H' := fun b o h _ => s b o h
theorem Stay.new {q p : Addr} {H : Hp} {o : HO} (n : H p = none) : Stay q H (upd H p o) := .of_same fun b u e => by rw [upd_ne (ne_of_none e n)]; exact e
theorem Stay.trans {q : Addr} {H H1 H2 : Hp} (a : Stay q H H1) (b : Stay q H1 H2) : Stay q H H2 := fun c o h f => b c o (a c o h f) f
theorem Stay.wr {q p : Addr} {H : Hp} {o u : HO} (e : H p = some u) (nf : ¬ Fixed u) (hq : p ≠ q) : Stay q H (upd H p o) := fun b y h f => by
  have hb : b ≠ p := fun z => by
    rcases f with f | f
    · exact hq (z.symm.trans f)
    · rw [z, e] at h
      cases h
      exact nf f
  rw [upd_ne hb]
  exact h
theorem nf_lst {xs : List V} : ¬ Fixed (.lst xs) := fun z => z
theorem nf_ins {C dx : Addr} {fs : List (Str × V)} : ¬ Fixed (.ins C dx fs) := fun z => z
theorem Stay.tk {q : Addr} {H H' : Hp} (s : Stay q H H') : TK H H' := fun b xs e => s b _ e (.inr True.intro)
theorem Same.tk {H H' : Hp} (s : Same H H') : TK H H' := fun b xs e => s b _ e
theorem TK.new {p : Addr} {H : Hp} {o : HO} (n : H p = none) : TK H (upd H p o) := fun b u e => by rw [upd_ne (ne_of_none e n)]; exact e
theorem TK.wr {p : Addr} {H : Hp} {o u : HO} (e : H p = some u) (nf : ¬ Fixed u) : TK H (upd H p o) := fun b y h => by
  have hb : b ≠ p := fun z => by
    rw [z, e] at h
    cases h
    exact nf True.intro
  rw [upd_ne hb]
  exact h
/-- a row that questions don't change -/
def Row (K : PySem.W.Frag) (q : Addr) (H : Hp) (a : Addr) (xs : List V) : Prop := SqL K H a xs ∧ a ≠ q
theorem sq_keep {K : PySem.W.Frag} {H H' : Hp} {a : Addr} {xs : List V} (h : SqL K H a xs) (k : ∀ o, H a = some o → H' a = some o) : SqL K H' a xs := by
  rcases h with (h | ⟨o, h⟩) | h
  · exact .inl (.inl (k _ h))
  · exact .inl (.inr ⟨o, k _ h⟩)
  · exact .inr h
theorem Row.kb {K : PySem.W.Frag} {q : Addr} {H H' : Hp} {a : Addr} {xs : List V} (h : Row K q H a xs) (k : KB q H H') : Row K q H' a xs := ⟨sq_keep h.1 fun o e => k.keep a o h.2 e, h.2⟩
theorem Row.of {K : PySem.W.Frag} {q : Addr} {H : Hp} {a : Addr} {xs : List V} (h : H a = some (.lst xs)) (n : a ≠ q) : Row K q H a xs := ⟨SqL.of h, n⟩
theorem Row.ne {K : PySem.W.Frag} {q p : Addr} {H : Hp} {a : Addr} {xs : List V} {o : HO} (h : Row K q H a xs) (n : a ≠ p) : Row K q (upd H p o) a xs := ⟨sq_keep h.1 fun u e => by rw [upd_ne n]; exact e, h.2⟩
theorem Row.new {K : PySem.W.Frag} {q p : Addr} {H : Hp} {a : Addr} {xs : List V} {o : HO} (h : Row K q H a xs) (n : H p = none) : Row K q (upd H p o) a xs := ⟨sq_keep h.1 fun u e => by rw [upd_ne (ne_of_none e n)]; exact e, h.2⟩

/-! ### the function that is handed in -/
abbrev Lg := List (V × V)
/-- what a question asks and gives -/
def spAsk (q : Addr) (ans : Lg → V → V → Int) (Log : Lg → Hp → Prop) (Dom : V → Hp → Prop) : Sp := fun vs H Q _ => ∃ (x y : V) (l : Lg), vs = [x, y] ∧ Log l H ∧ l.length < 100000 ∧ Dom x H ∧ Dom y H ∧
  ∀ H', KB q H H' → Log (l ++ [(x, y)]) H' → Q (.int (ans l x y)) H'
structure Orc (P : Program) (w : World) (K : PySem.W.Frag) (mg : Str → Option Value) (base : Heap) where
  f : Addr
  q : Addr
  ans : Lg → V → V → Int
  Log : Lg → Hp → Prop
  Dom : V → Hp → Prop
  isf : ∀ {l H}, Log l H → IsFz H f
  isq : ∀ {l H}, Log l H → H q ≠ Option.none
  stay : ∀ {l H H'}, Stay q H H' → Log l H → Log l H'
  dom : ∀ {x H H'}, TK H H' → Dom x H → Dom x H'
  run : FnV P w K mg base 3 f (spAsk q ans Log Dom)
section
variable {P : Program} {w : World} {K : PySem.W.Frag} {mg : Str → Option Value} {base : Heap} (O : Orc P w K mg base)
/-- all of a row may be asked of -/
def Orc.All (xs : List V) (H : Hp) : Prop := ∀ x ∈ xs, O.Dom x H
variable {O}
theorem Orc.All.tk {xs : List V} {H H' : Hp} (h : O.All xs H) (k : TK H H') : O.All xs H' := fun x hx => O.dom k (h x hx)
theorem Orc.All.get {xs : List V} {H : Hp} {i : Nat} {x : V} (h : O.All xs H) (e : xs[i]? = some x) : O.Dom x H := h x (List.mem_of_getElem? e)
theorem Orc.nq {l : Lg} {H : Hp} {p : Addr} (h : O.Log l H) (n : H p = none) : p ≠ O.q := fun z => O.isq h (by rw [← z]; exact n)
theorem Orc.new {l : Lg} {H : Hp} {p : Addr} {o : HO} (h : O.Log l H) (n : H p = none) : O.Log l (upd H p o) := O.stay (Stay.new n) h
theorem Orc.wr {l : Lg} {H : Hp} {p : Addr} {o u : HO} (h : O.Log l H) (e : H p = some u) (nf : ¬ Fixed u) (hq : p ≠ O.q) : O.Log l (upd H p o) := O.stay (Stay.wr e nf hq) h
end
end Ord
namespace Ord
open PySem PySem.Spec PyProof.Rows L2 LamX
theorem KB.free {q p : Addr} {H H' : Hp} (k : KB q H H') (hq : p ≠ q) (n : H' p = none) : H p = none := by
  cases e : H p with
  | none => rfl
  | some o =>
    rw [k.keep p o hq e] at n
    cases n
theorem cut_from {xs : List V} {i : Nat} (h : i ≤ xs.length) : cutV xs (some (i : Int)) none = xs.drop i := by
  unfold cutV
  rw [HT.sIx_nat, HT.sIx_none, Nat.min_eq_left h, List.take_of_length_le (by rw [List.length_drop]; omega)]
theorem cut_to {xs : List V} {i : Nat} (h : i ≤ xs.length) : cutV xs none (some (i : Int)) = xs.take i := by
  unfold cutV
  rw [HT.sIx_nat, HT.sIx_none, Nat.min_eq_left h, List.drop_zero, Nat.sub_zero]
theorem cut_from1 (xs : List V) (i : Nat) : cutV xs (some (i : Int)) none = xs.drop i := by
  unfold cutV
  rw [HT.sIx_nat, HT.sIx_none]
  by_cases h : i ≤ xs.length
  · rw [Nat.min_eq_left h, List.take_of_length_le (by rw [List.length_drop]; omega)]
  · rw [Nat.min_eq_right (by omega), List.drop_of_length_le (Nat.le_refl _), List.drop_of_length_le (by omega)]
    simp
theorem cut_to1 (xs : List V) (i : Nat) : cutV xs none (some (i : Int)) = xs.take i := by
  unfold cutV
  rw [HT.sIx_nat, HT.sIx_none, List.drop_zero, Nat.sub_zero]
  by_cases h : i ≤ xs.length
  · rw [Nat.min_eq_left h]
  · rw [Nat.min_eq_right (by omega), List.take_of_length_le (Nat.le_refl _), List.take_of_length_le (by omega)]
theorem z1000 {n : Nat} (h : n ≤ 1000) : n ≤ sizeLine := Nat.le_of_lt (small1000 h)
/-- a test whose answer is told -/
theorem iteB {c : Bool} {A B : Prop} (h1 : c = true → A) (h2 : c = false → B) : if c = true then A else B := by
  cases c with
  | true => exact iteT (h1 rfl)
  | false => exact iteF (h2 rfl)
theorem iteD {p : Prop} [Decidable p] {A B : Prop} (h1 : p → A) (h2 : ¬ p → B) : if decide p = true then A else B := iteB (fun e => h1 (of_decide_eq_true e)) fun e => h2 (of_decide_eq_false e)
end Ord
namespace Ord
open PySem PySem.Spec PyProof.Rows L2 LamX
/-! ### operators whose answer is named by the one who asks -/
def rE (C : Int → Int → Prop) (g : Int → Int → Int) : R2 := fun x y H Q => ∃ i j z : Int, x = .int i ∧ y = .int j ∧ C i j ∧ z = g i j ∧ Q (.int z) H
def rE0 (g : Int → Int → Int) : R2 := fun x y H Q => ∃ i j z : Int, x = .int i ∧ y = .int j ∧ z = g i j ∧ Q (.int z) H
section
variable {X : Cx}
theorem opE {f : Value → Value → Sem Value} {C : Int → Int → Prop} {g : Int → Int → Int} (h : OpR X f (rI C fun i j => .int (g i j))) : OpR X f (rE C g) := by
  intro pins s σ H x y v u Q I rx ry q
  obtain ⟨i, j, z, e1, e2, hc, rfl, q⟩ := q
  exact h pins s σ H x y v u Q I rx ry ⟨i, j, e1, e2, hc, q⟩
theorem opE0 {f : Value → Value → Sem Value} {g : Int → Int → Int} (h : OpR X f (rI0 fun i j => .int (g i j))) : OpR X f (rE0 g) := by
  intro pins s σ H x y v u Q I rx ry q
  obtain ⟨i, j, z, e1, e2, rfl, q⟩ := q
  exact h pins s σ H x y v u Q I rx ry ⟨i, j, e1, e2, q⟩
theorem op_fdivE : OpR X (binaryOp .FloorDiv) (rE CDiv fun i j => i / j) := opE op_fdiv
theorem op_addE : OpR X (binaryOp .Add) (rE0 fun i j => i + j) := opE0 op_add
theorem op_subE : OpR X (binaryOp .Sub) (rE0 fun i j => i - j) := opE0 op_sub
theorem op_mulE : OpR X (binaryOp .Mult) (rE CMul fun i j => i * j) := opE op_mul
theorem op_modE : OpR X (binaryOp .Mod) (rE (fun _ j => 0 < j) fun i j => i % j) := opE op_mod
end
end Ord
namespace Ord
open PySem PySem.Spec PyProof.Rows L2 LamX
/-! ### defs of the text by name -/
structure Df (K : PySem.W.Frag) (mg : Str → Option Value) (x : Str) (st : Stmt) (ps : List Str) where
  f : Addr
  fd : FuncData
  F : Fun K x x st f fd
  g : mg x = some (.ref f)
  b : Binds K fd ps []
section
variable {X : Cx} {k : Nat} {x : Str} {st : Stmt} {ps : List Str} {sp : Sp} {p pos : Pos} {e : Expr} {es : List Expr} {t : TA} {te : TE}
theorem pe_cd {d : Df X.K X.mg x st ps} (G : FnOk X.prog X.w X.K X.mg X.base CX0 k d.f d.fd ps sp) (hr : Room k X.A) (ha : PA X (e :: es) t) (hg : Gl X x := by rfl) (hdb : (x == ("__debug__" : Str)) = false := by decide)
    (he : starEach (e :: es) X.env = (false, eval e X.env) :: starEach es X.env := by rfl) (hpl : (backTo pos (starEach es X.env)).any (·.1) = false := by rfl) : PE X (.Call (.Name x p) (e :: es) [] pos) (tCall sp [] E0 t) :=
  pe_call G hr hg d.g d.F.kp d.b .nil pass0 ha hdb he hpl
theorem pe_cdLent {d : Df X.K X.mg x st ps} (G : FnOk X.prog X.w X.K X.mg X.base CX0 k d.f d.fd ps sp) (hr : Room k X.A) (un : UniqC X.env.cells) (hfn : ∀ x, X.fn x = true) (ha : PA X (e :: es) t) (hg : Gl X x := by rfl) (hdb : (x == ("__debug__" : Str)) = false := by decide)
    (he : starEach (e :: es) X.env = (false, eval e X.env) :: starEach es X.env := by rfl) (hpl : (backTo pos (starEach es X.env)).any (·.1) = false := by rfl) : PE X (.Call (.Name x p) (e :: es) [] pos) (tCallLent X sp t) :=
  pe_callLent G hr hg d.g d.F.kp d.b un hfn (fun _ _ _ _ z => z) ha hdb he hpl
/-- len(e): a list, a tuple -/
def rLen1 (K : PySem.W.Frag) : List V → Hp → VK → Prop := fun xs H Q => ∃ p ys, xs = [V.ref p] ∧ (SqL K H p ys ∨ SqT K H p ys) ∧ Q (.int (ys.length : Nat)) H
theorem pe_len (mL : X.mg "len" = none) (h : PE X e te) (hg : Gl X "len" := by rfl) (he : starEach [e] X.env = (false, eval e X.env) :: starEach [] X.env := by rfl) (hpl : (backTo pos (starEach [] X.env)).any (·.1) = false := by rfl) :
    PE X (.Call (.Name "len" p) [e] [] pos) (tCB (rLen1 X.K) (tCons te tNil)) :=
  pe_callB call_len_seq hg mL PySem.boot_len (pa_cons h pa_nil he) (by decide) (by decide) he hpl
end
theorem hu65 {A : Around} {k : Nat} (hr : Room k A) : A.units + 65 < cLine := Nat.lt_of_le_of_lt (Nat.add_le_add_left (by decide : 65 ≤ 200) _) (Nat.lt_of_le_of_lt (by omega) hr.un)
/-! ### cells: no name twice -/
theorem cells_keys : ∀ (names : List (Str × NameKind)) (n : Nat) (acc : List (Str × Addr)), (names.map (·.1)).Nodup → (acc.map (·.1)).Nodup → (∀ x ∈ names.map (·.1), x ∉ acc.map (·.1)) → ((cellsFrom n names acc).map (·.1)).Nodup
  | [], n, acc, _, h, _ => h
  | (y, k) :: r, n, acc, h1, h2, h3 => by
    rw [List.map_cons, List.nodup_cons] at h1
    unfold cellsFrom
    split
    · refine cells_keys r (n + 1) _ h1.2 ?_ fun x hx => ?_
      · rw [List.map_cons, List.nodup_cons]
        exact ⟨h3 y (by rw [List.map_cons]; exact List.mem_cons_self), h2⟩
      · rw [List.map_cons, List.mem_cons, not_or]
        refine ⟨fun e => ?_, h3 x (by rw [List.map_cons]; exact List.mem_cons_of_mem _ hx)⟩
        subst e
        exact h1.1 hx
    · exact cells_keys r n acc h1.2 h2 fun x hx => h3 x (by rw [List.map_cons]; exact List.mem_cons_of_mem _ hx)
theorem lookup_of_keys : ∀ {cs : List (Str × Addr)} {x : Str} {c : Addr}, (cs.map (·.1)).Nodup → (x, c) ∈ cs → cs.lookup x = some c
  | (y, d) :: r, x, c, h, hm => by
    rw [List.map_cons, List.nodup_cons] at h
    rw [List.lookup_cons]
    rcases List.mem_cons.mp hm with e | e
    · cases e
      simp
    · have hx : (x == y) = false := beq_eq_false_iff_ne.mpr fun z => by
        subst z
        exact h.1 (List.mem_map.mpr ⟨_, e, rfl⟩)
      rw [hx]
      exact lookup_of_keys h.2 e
theorem uniq_cells {names : List (Str × NameKind)} {n : Nat} (h : (names.map (·.1)).Nodup) : UniqC (cellsFrom n names []) := fun b hb => by
  obtain ⟨⟨x, c⟩, hm, e⟩ := List.mem_map.mp hb
  have e : c = b := e
  subst e
  exact ⟨x, lookup_of_keys (cells_keys names n [] h (by simp) (by simp)) hm⟩
end Ord
namespace Ord
open PySem PySem.Spec PyProof.Rows L2 LamX
theorem Same.new {H : Hp} {p : Addr} {o : HO} (n : H p = none) : Same H (upd H p o) := fun b u e => by rw [upd_ne (ne_of_none e n)]; exact e
/-- behind a new object -/
theorem kn {H : Hp} {p b : Addr} {o u : HO} (n : H p = none) (e : H b = some u) : upd H p o b = some u := (upd_ne (ne_of_none e n)).trans e
end Ord

/-! What the laws' helpers compute. -/
namespace Mir
def cellI (ns : List Int) (k : Nat) : Int := if ns = [] then (k : Int) * 7919 else ns.getD (k % ns.length) 0 + ((k / ns.length : Nat) : Int) * 104729
def moreI (c : Int) (k : Nat) : Int := (c * 6364136223846793005 + ((k : Int) + 1) * 1442695040888963407) % 340282366920938463463374607431768211507
def drawn (c : Int) (k : Nat) : Int := moreI c k * moreI c k % 340282366920938463463374607431768211297
theorem moreI_nn (c : Int) (k : Nat) : 0 ≤ moreI c k ∧ moreI c k < 340282366920938463463374607431768211507 := ⟨Int.emod_nonneg _ (by decide), Int.emod_lt_of_pos _ (by decide)⟩
theorem drawn_nn (c : Int) (k : Nat) : 0 ≤ drawn c k ∧ drawn c k < 340282366920938463463374607431768211297 := ⟨Int.emod_nonneg _ (by decide), Int.emod_lt_of_pos _ (by decide)⟩
/-- the law's draw at a cell -/
def dr (ns : List Int) (c k : Nat) : Int := drawn (cellI ns c) k
theorem dr_nn (ns : List Int) (c k : Nat) : 0 ≤ dr ns c k ∧ dr ns c k < 340282366920938463463374607431768211297 := drawn_nn _ _
/-! ### the least power of two -/
def clog (n : Nat) : Nat := if n ≤ 1 then 0 else clog ((n + 1) / 2) + 1
decreasing_by omega
theorem clog_lt : ∀ (k n : Nat), 2 ^ k < n ↔ k < clog n
  | 0, n => by
    rw [clog]
    split
    · simp; omega
    · simp; omega
  | k + 1, n => by
    have ih := clog_lt k ((n + 1) / 2)
    rw [clog]
    have e : 2 ^ (k + 1) = 2 * 2 ^ k := by rw [Nat.pow_succ]; omega
    split
    · have : 0 < 2 ^ k := Nat.pow_pos (by decide)
      omega
    · rw [e]
      omega
theorem clog_le {n k : Nat} : clog n ≤ k ↔ n ≤ 2 ^ k := by
  have h := clog_lt k n
  omega
theorem le_clog (n : Nat) : n ≤ 2 ^ clog n := clog_le.mp (Nat.le_refl _)
theorem clog_mono {m n : Nat} (h : m ≤ n) : clog m ≤ clog n := clog_le.mpr (Nat.le_trans h (le_clog n))
theorem clog_le_self (n : Nat) : clog n ≤ n := clog_le.mpr (Nat.le_of_lt Nat.lt_two_pow_self)
/-! ### the six orders -/
def b01 (b : Bool) : Int := if b then 1 else 0
def ansI (way : Int) (x y : Int × Int) : Int :=
  if way = 1 then 0 - (x.1 - y.1) else if way = 2 then x.1 / 3 - y.1 / 3
  else if way = 3 then (b01 (decide (0 < x.1 - y.1)) - b01 (decide (x.1 - y.1 < 0))) * (1 + (if x.2 < 0 then -x.2 else x.2) % 9)
  else if way = 4 then (x.1 - y.1) * 100000000000000000000
  else if way = 5 then (if x.1 - 4 < 0 then -(x.1 - 4) else x.1 - 4) - (if y.1 - 4 < 0 then -(y.1 - 4) else y.1 - 4)
  else x.1 - y.1
def keyI (way : Int) (x : Int × Int) : Int :=
  if way = 1 then 0 - x.1 else if way = 2 then x.1 / 3 else if way = 5 then (if x.1 - 4 < 0 then -(x.1 - 4) else x.1 - 4) else x.1
/-- answers that tell an order by a key -/
structure KeyA {α : Type} (ans : List (α × α) → α → α → Int) (key : α → Int) : Prop where
  pos : ∀ l x y, 0 < ans l x y ↔ key y < key x
  neg : ∀ l x y, ans l x y < 0 ↔ key x < key y
theorem KeyA.le {α : Type} {ans : List (α × α) → α → α → Int} {key : α → Int} (h : KeyA ans key) (l : List (α × α)) (x y : α) : ans l x y ≤ 0 ↔ key x ≤ key y := by
  have := h.pos l x y
  omega
theorem KeyA.eq {α : Type} {ans : List (α × α) → α → α → Int} {key : α → Int} (h : KeyA ans key) (l : List (α × α)) (x y : α) : ans l x y = 0 ↔ key x = key y := by
  have h1 := h.pos l x y
  have h2 := h.neg l x y
  omega
theorem KeyA.ge {α : Type} {ans : List (α × α) → α → α → Int} {key : α → Int} (h : KeyA ans key) (l : List (α × α)) (x y : α) : 0 ≤ ans l x y ↔ key y ≤ key x := by
  have h2 := h.neg l x y
  omega
theorem ansI_pos (way : Int) (x y : Int × Int) : (0 < ansI way x y ↔ keyI way y < keyI way x) ∧ (ansI way x y < 0 ↔ keyI way x < keyI way y) := by
  unfold ansI keyI
  by_cases h1 : way = 1
  · simp only [if_pos h1]; omega
  · by_cases h2 : way = 2
    · simp only [if_neg h1, if_pos h2]; omega
    · by_cases h3 : way = 3
      · have n5 : ¬ way = 5 := by omega
        simp only [if_neg h1, if_neg h2, if_pos h3, if_neg n5]
        obtain ⟨m, hm, hm1⟩ : ∃ m : Int, (1 + (if x.2 < 0 then -x.2 else x.2) % 9) = m ∧ 0 < m := ⟨_, rfl, by
          have := Int.emod_nonneg (if x.2 < 0 then -x.2 else x.2) (show (9 : Int) ≠ 0 by decide)
          omega⟩
        rw [hm]
        unfold b01
        by_cases a : 0 < x.1 - y.1
        · have b : ¬ x.1 - y.1 < 0 := by omega
          simp only [decide_eq_true a, decide_eq_false b, if_true, Bool.false_eq_true, if_false]
          omega
        · by_cases b : x.1 - y.1 < 0
          · simp only [decide_eq_false a, decide_eq_true b, if_true, Bool.false_eq_true, if_false]
            omega
          · simp only [decide_eq_false a, decide_eq_false b, Bool.false_eq_true, if_false]
            omega
      · by_cases h4 : way = 4
        · have n5 : ¬ way = 5 := by omega
          simp only [if_neg h1, if_neg h2, if_neg h3, if_pos h4, if_neg n5]; omega
        · by_cases h5 : way = 5
          · simp only [if_neg h1, if_neg h2, if_neg h3, if_neg h4, if_pos h5]; omega
          · simp only [if_neg h1, if_neg h2, if_neg h3, if_neg h4, if_neg h5]; omega
theorem keyA_of {α : Type} (way : Int) (c : α → Int × Int) : KeyA (fun _ x y => ansI way (c x) (c y)) (fun x => keyI way (c x)) := ⟨fun _ x y => (ansI_pos way (c x) (c y)).1, fun _ x y => (ansI_pos way (c x) (c y)).2⟩
/-! ### the stable order, element by element -/
section
variable {α : Type}
def plc (key : α → Int) (made : List α) (e : α) : Nat → Nat
  | 0 => 0
  | n + 1 => match made[n]? with
    | some z => if key e < key z then plc key made e n else n + 1
    | none => n + 1
def ins1 (key : α → Int) (made : List α) (e : α) : List α := made.take (plc key made e made.length) ++ [e] ++ made.drop (plc key made e made.length)
def isort (key : α → Int) (xs : List α) : List α := xs.foldl (ins1 key) []
theorem plc_le (key : α → Int) (made : List α) (e : α) : ∀ n, plc key made e n ≤ n
  | 0 => Nat.le_refl 0
  | n + 1 => by
    have ih := plc_le key made e n
    unfold plc
    split
    · split
      · omega
      · omega
    · omega
theorem ins1_len (key : α → Int) (made : List α) (e : α) : (ins1 key made e).length = made.length + 1 := by
  have h := plc_le key made e made.length
  unfold ins1
  simp only [List.length_append, List.length_take, List.length_drop, List.length_singleton]
  omega
theorem isort_snoc (key : α → Int) (xs : List α) (e : α) : isort key (xs ++ [e]) = ins1 key (isort key xs) e := by
  unfold isort
  rw [List.foldl_append]
  rfl
theorem isort_len (key : α → Int) (xs : List α) : (isort key xs).length = xs.length := by
  have : ∀ (ys : List α) (acc : List α), (ys.foldl (ins1 key) acc).length = acc.length + ys.length := by
    intro ys
    induction ys with
    | nil => intro acc; simp
    | cons y ys ih => intro acc; rw [List.foldl_cons, ih, ins1_len, List.length_cons]; omega
  unfold isort
  rw [this]
  simp
theorem ins1_mem {key : α → Int} {made : List α} {e z : α} (h : z ∈ ins1 key made e) : z ∈ made ∨ z = e := by
  unfold ins1 at h
  rcases List.mem_append.mp h with h | h
  · rcases List.mem_append.mp h with h | h
    · exact .inl (List.mem_of_mem_take h)
    · exact .inr (List.mem_singleton.mp h)
  · exact .inl (List.mem_of_mem_drop h)
theorem isort_mem {key : α → Int} {xs : List α} {z : α} (h : z ∈ isort key xs) : z ∈ xs := by
  have : ∀ (ys : List α) (acc : List α), z ∈ ys.foldl (ins1 key) acc → z ∈ acc ∨ z ∈ ys := by
    intro ys
    induction ys with
    | nil => intro acc q; exact .inl q
    | cons y ys ih =>
      intro acc q
      rw [List.foldl_cons] at q
      rcases ih _ q with q | q
      · rcases ins1_mem q with q | q
        · exact .inl q
        · exact .inr (by rw [q]; exact List.mem_cons_self)
      · exact .inr (List.mem_cons_of_mem _ q)
  rcases this xs [] h with q | q
  · cases q
  · exact q
end
end Mir
namespace Mir
section
variable {α : Type}
theorem plc_zero (key : α → Int) (made : List α) (e : α) : plc key made e 0 = 0 := by unfold plc; rfl
theorem plc_lt {key : α → Int} {made : List α} {e z : α} {n : Nat} (h : made[n]? = some z) (hz : key e < key z) : plc key made e (n + 1) = plc key made e n := by
  rw [plc]
  rw [h]
  exact if_pos hz
theorem plc_ge {key : α → Int} {made : List α} {e z : α} {n : Nat} (h : made[n]? = some z) (hz : ¬ key e < key z) : plc key made e (n + 1) = n + 1 := by
  rw [plc]
  rw [h]
  exact if_neg hz
end
end Mir

namespace Ord
open PySem PySem.Spec PyProof.Rows L2 LamX
/-! ### elements: pairs of whole numbers -/
def pd (e : Int × Int) : PyData := .tuple [.int e.1, .int e.2]
/-- x is a tuple of the two numbers e -/
def Pr (H : Hp) (x : V) (e : Int × Int) : Prop := ∃ p, x = .ref p ∧ H p = some (.tup [.int e.1, .int e.2])
/-- what stands at an element -/
def cnt (H : Hp) (x : V) : Int × Int := match x with
  | .ref p => (match H p with
    | some (.tup [.int a, .int b]) => (a, b)
    | _ => (0, 0))
  | _ => (0, 0)
theorem Pr.tk {H H' : Hp} {x : V} {e : Int × Int} (h : Pr H x e) (k : TK H H') : Pr H' x e := by
  obtain ⟨p, e1, e2⟩ := h
  exact ⟨p, e1, k _ _ e2⟩
theorem Pr.cnt {H : Hp} {x : V} {e : Int × Int} (h : Pr H x e) : Ord.cnt H x = e := by
  obtain ⟨p, rfl, e2⟩ := h
  unfold Ord.cnt
  simp only [e2]
theorem Pr.inj {H : Hp} {x : V} {e e' : Int × Int} (h : Pr H x e) (h' : Pr H x e') : e = e' := by rw [← h.cnt, h'.cnt]
/-- numbers that may be multiplied -/
def Sm (i : Int) : Prop := i.natAbs < 2 ^ 200
theorem Sm.of {i : Int} (h1 : -(2 ^ 199) ≤ i) (h2 : i ≤ 2 ^ 199) : Sm i := by
  unfold Sm
  have e : (2 : Int) ^ 199 = ((2 ^ 199 : Nat) : Int) := by norm_cast
  rw [e] at h1 h2
  have e2 : (2 : Nat) ^ 200 = 2 ^ 199 + 2 ^ 199 := by decide
  have e3 : 0 < (2 : Nat) ^ 199 := by decide
  omega
def Sn (i : Int) : Prop := i.natAbs < 2 ^ 190
theorem Sn.sub {i j : Int} (h1 : Sn i) (h2 : Sn j) : Sm (i - j) := by
  unfold Sn at h1 h2
  unfold Sm
  have e : (2 : Nat) ^ 190 + 2 ^ 190 ≤ 2 ^ 200 := by decide
  omega
theorem Sn.of {i : Int} (h1 : -1000000000000000000000000000000000000000 ≤ i) (h2 : i ≤ 1000000000000000000000000000000000000000) : Sn i := by
  unfold Sn
  have e : 1000000000000000000000000000000000000000 < (2 : Nat) ^ 190 := by decide
  omega
/-- an element of contents c x -/
def El (c : V → Int × Int) (x : V) (H : Hp) : Prop := Pr H x (c x) ∧ Sn (c x).1 ∧ Sn (c x).2
theorem El.tk {c : V → Int × Int} {x : V} {H H' : Hp} (k : TK H H') (h : El c x H) : El c x H' := ⟨h.1.tk k, h.2⟩
def Els (c : V → Int × Int) (xs : List V) (H : Hp) : Prop := ∀ x ∈ xs, El c x H
theorem Els.tk {c : V → Int × Int} {xs : List V} {H H' : Hp} (h : Els c xs H) (k : TK H H') : Els c xs H' := fun x hx => (h x hx).tk k
theorem El.now {c : V → Int × Int} {x : V} {H : Hp} (h : El c x H) : El (cnt H) x H := by
  obtain ⟨a, b1, b2⟩ := h
  have e := a.cnt
  exact ⟨by rw [e]; exact a, by rw [e]; exact b1, by rw [e]; exact b2⟩
theorem El.eqc {c : V → Int × Int} {x : V} {H : Hp} (h : El c x H) : cnt H x = c x := h.1.cnt
theorem Els.now {c : V → Int × Int} {xs : List V} {H : Hp} (h : Els c xs H) : Els (cnt H) xs H := fun x hx => (h x hx).now
/-! ### as data -/
theorem dp_el {K : PySem.W.Frag} {H : Hp} {x : V} {e : Int × Int} (h : Pr H x e) : Dp K H x (pd e) := by
  obtain ⟨p, rfl, e2⟩ := h
  exact .tup (SqT.of e2) (.cons (.int _) (.cons (.int _) .nil))
theorem dp_els {K : PySem.W.Frag} {H : Hp} {c : V → Int × Int} : ∀ {xs : List V}, Els c xs H → DpAll K H xs (xs.map fun x => pd (c x))
  | [], _ => .nil
  | x :: xs, h => .cons (dp_el (h x List.mem_cons_self).1) (dp_els fun y hy => h y (List.mem_cons_of_mem _ hy))
theorem dp_row {K : PySem.W.Frag} {H : Hp} {c : V → Int × Int} {a : Addr} {xs : List V} (s : SqL K H a xs) (h : Els c xs H) : Dp K H (.ref a) (.list (xs.map fun x => pd (c x))) := .lst s (dp_els h)
theorem dp_ints {K : PySem.W.Frag} {H : Hp} : ∀ (ns : List Int), DpAll K H (ns.map V.int) (ns.map PyData.int)
  | [] => .nil
  | n :: ns => .cons (.int n) (dp_ints ns)
theorem canLay_pd (e : Int × Int) : (pd e).canLay0 = true := by simp [pd, PyData.canLay0, PyData.canLayAll0]
theorem depth_pd (e : Int × Int) : (pd e).depth ≤ 4 := by simp [pd, PyData.depth, PyData.depthAll]
theorem canLayAll_pd {α : Type} (g : α → Int × Int) : ∀ xs : List α, PyData.canLayAll0 (xs.map fun x => pd (g x)) = true
  | [] => rfl
  | x :: xs => by
    rw [List.map_cons, PyData.canLayAll0, canLay_pd, canLayAll_pd g xs]
    rfl
theorem depthAll_pd {α : Type} (g : α → Int × Int) : ∀ xs : List α, PyData.depthAll (xs.map fun x => pd (g x)) ≤ 4
  | [] => by simp [PyData.depthAll]
  | x :: xs => by
    have h1 := depth_pd (g x)
    have h2 := depthAll_pd g xs
    rw [List.map_cons, PyData.depthAll]
    omega
theorem shaped_of {d : PyData} (h1 : d.canLay0 = true) (h2 : d.depth ≤ 64) : SeqAt.shaped d = true := by
  unfold SeqAt.shaped
  rw [h1, decide_eq_true h2]
  rfl
theorem shaped_pd (e : Int × Int) : SeqAt.shaped (pd e) = true := shaped_of (canLay_pd e) (Nat.le_trans (depth_pd e) (by decide))
theorem shaped_row {α : Type} (g : α → Int × Int) (xs : List α) : SeqAt.shaped (.list (xs.map fun x => pd (g x))) = true := by
  have h := depthAll_pd g xs
  refine shaped_of (by rw [PyData.canLay0]; exact canLayAll_pd g xs) ?_
  rw [PyData.depth]
  omega
theorem shaped_nil : SeqAt.shaped (.list []) = true := shaped_row (fun x : Int × Int => x) []
theorem shaped_ints (ns : List Int) : SeqAt.shaped (.list (ns.map PyData.int)) = true := by
  have a : ∀ ns : List Int, PyData.canLayAll0 (ns.map PyData.int) = true ∧ PyData.depthAll (ns.map PyData.int) ≤ 1 := by
    intro ns
    induction ns with
    | nil => exact ⟨rfl, by simp [PyData.depthAll]⟩
    | cons n ns ih =>
      rw [List.map_cons, PyData.canLayAll0, PyData.depthAll, ih.1]
      refine ⟨rfl, ?_⟩
      have : (PyData.int n).depth ≤ 1 := by simp [PyData.depth]
      omega
  refine shaped_of (by rw [PyData.canLay0]; exact (a ns).1) ?_
  rw [PyData.depth]
  have := (a ns).2
  omega
theorem eqv_pd (a b : Int × Int) : PyData.eqv (pd a) (pd b) = decide (a = b) := by
  obtain ⟨a1, a2⟩ := a
  obtain ⟨b1, b2⟩ := b
  unfold pd
  rw [PyData.eqv, PyData.eqvAll, PyData.eqvAll, PyData.eqvAll, PyData.eqv, PyData.eqv]
  by_cases h1 : a1 = b1
  · by_cases h2 : a2 = b2
    · subst h1 h2
      simp
    · simp [h1, h2]
  · simp [h1]
theorem eqvAll_pd {α β : Type} (g : α → Int × Int) (g' : β → Int × Int) : ∀ (xs : List α) (ys : List β), PyData.eqvAll (xs.map fun x => pd (g x)) (ys.map fun x => pd (g' x)) = decide (xs.map g = ys.map g')
  | [], [] => by rw [List.map_nil, List.map_nil, List.map_nil, PyData.eqvAll]; simp
  | [], y :: ys => by rw [List.map_nil, List.map_cons, PyData.eqvAll]; simp
  | x :: xs, [] => by rw [List.map_cons, List.map_nil, PyData.eqvAll]; simp
  | x :: xs, y :: ys => by
    rw [List.map_cons, List.map_cons, PyData.eqvAll, eqv_pd, eqvAll_pd g g' xs ys]
    by_cases h1 : g x = g' y
    · by_cases h2 : xs.map g = ys.map g'
      · simp [h1, h2]
      · simp [h1, h2]
    · simp [h1]
theorem eqv_row {α β : Type} (g : α → Int × Int) (g' : β → Int × Int) (xs : List α) (ys : List β) : PyData.eqv (.list (xs.map fun x => pd (g x))) (.list (ys.map fun x => pd (g' x))) = decide (xs.map g = ys.map g') := by
  rw [PyData.eqv]
  exact eqvAll_pd g g' xs ys
theorem eqv_ints_nil (ns : List Int) : PyData.eqv (.list (ns.map PyData.int)) (.list []) = decide (ns = []) := by
  cases ns with
  | nil => rw [List.map_nil, PyData.eqv, PyData.eqvAll]; simp
  | cons n ns => rw [List.map_cons, PyData.eqv, PyData.eqvAll]; simp
theorem any_pd {α : Type} (g : α → Int × Int) (e : Int × Int) (xs : List α) : (xs.map fun x => pd (g x)).any (fun z => PyData.eqv z (pd e)) = decide (e ∈ xs.map g) := by
  induction xs with
  | nil => simp
  | cons x xs ih =>
    rw [List.map_cons, List.any_cons, ih, eqv_pd, List.map_cons]
    by_cases h1 : g x = e
    · simp [h1]
    · by_cases h2 : e ∈ xs.map g
      · simp [h2]
      · have h3 : ¬ e = g x := fun z => h1 z.symm
        simp [h1, h2, h3]
/-! ### great numbers -/
def CMulB (i j : Int) : Prop := Sm i ∧ Sm j
section
variable {X : Cx}
theorem op_mulB : OpR X (binaryOp .Mult) (rE CMulB fun i j => i * j) := by
  intro pins s σ H x y v u Q I rx ry q
  obtain ⟨i, j, z, e1, e2, ⟨h1, h2⟩, rfl, q⟩ := q
  exact op_mulW pins s σ H x y v u Q I rx ry ⟨i, j, e1, e2, wide_mul (a := 200) (b := 200) h1 h2 (by decide) (by decide) (by decide), q⟩
end
end Ord
namespace Ord
open PySem PySem.Spec PyProof.Rows L2 LamX
/-! ### the same rules, the written part named (for comprehensions) -/
section
variable {X : Cx} {K : PySem.W.Frag} {e : Expr} {te : TE} {p pos : Pos} {f : Str}
theorem ix_listK (hK : X.K = K := by rfl) : IxR X (rIxL K) := hK ▸ ix_list
theorem ix_tupK (hK : X.K = K := by rfl) : IxR X (rIxT K) := hK ▸ ix_tup
theorem sl_listK (hK : X.K = K := by rfl) : SlR X (rSlL K) := hK ▸ sl_list
theorem op_eqDK (hu : X.A.units + 64 < cLine) (hK : X.K = K := by rfl) : OpR X (compareOp .Eq) (rEqD K) := hK ▸ op_eqD hu
theorem op_neDK (hu : X.A.units + 64 < cLine) (hK : X.K = K := by rfl) : OpR X (compareOp .NotEq) (rNeD K) := hK ▸ op_neD hu
theorem op_inDK (hu : X.A.units + 65 < cLine) (hK : X.K = K := by rfl) : OpR X (compareOp .In) (rInD K) := hK ▸ op_inD hu
theorem op_notInDK (hu : X.A.units + 65 < cLine) (hK : X.K = K := by rfl) : OpR X (compareOp .NotIn) (rNotInD K) := hK ▸ op_notInD hu
theorem pe_lenK (mL : X.mg "len" = none) (h : PE X e te) (hK : X.K = K := by rfl) (hg : Gl X "len" := by rfl) (he : starEach [e] X.env = (false, eval e X.env) :: starEach [] X.env := by rfl) (hpl : (backTo pos (starEach [] X.env)).any (·.1) = false := by rfl) :
    PE X (.Call (.Name "len" p) [e] [] pos) (tCB (rLen1 K) (tCons te tNil)) := hK ▸ pe_len mL h hg he hpl
end
end Ord
namespace Ord
open PySem PySem.Spec PyProof.Rows L2 LamX
section
variable {X : Cx} {K : PySem.W.Frag} {e : Expr} {te : TE} {p pos : Pos} {f : Str}
theorem pg_tupK {es : List Expr} {k : Nat} {t : TGs} {n : Nat} (hc : X.calm = true) (h : PGs X es t) (hK : X.K = K := by rfl)
    (hn : (assignEach es X.env).length = n := by rfl) (hst : (assignEach es X.env).findIdx? (·.1) = none := by rfl) : PG X (.Tuple es k pos) (gTup K n t) := hK ▸ pg_tup hc h hn hst
theorem cr_allK (hc : X.calm = true) (hK : X.K = K := by rfl) : CallR X (.builtin "all") (rAll K) := hK ▸ cr_all hc
theorem cr_anyK (hc : X.calm = true) (hK : X.K = K := by rfl) : CallR X (.builtin "any") (rAny K) := hK ▸ cr_any hc
theorem pe_fldK (he : PE X e te) (hb : attributeBase e f X.env (eval e X.env) = eval e X.env) (hK : X.K = K := by rfl) : PE X (.Attribute e f pos) (tFld K te f) := hK ▸ pe_fld he hb
end
end Ord

namespace Ord
open PySem PySem.Spec PyProof.Rows L2 LamX
section
variable {P : Program} {w : World} {K : PySem.W.Frag} {mg : Str → Option Value} {base : Heap}
/-! ### _law_cell -/
def N__law_cell : List Str := ["_law_script", "_law_k"]
theorem sc__law_cell : FnScope ["_law_script", "_law_k"] ["_law_script", "_law_k"] (defScope st__law_cell) := ⟨rfl, rfl, rfl, by decide +kernel, rfl, by decide +kernel, by decide +kernel⟩
def spCellK (K : PySem.W.Frag) : Sp := fun vs H Q _ => ∃ (a : Addr) (ns : List Int) (k : Nat), vs = [.ref a, .int (k : Int)] ∧ SqL K H a (ns.map V.int) ∧ ns.length ≤ 1000 ∧ ∀ H', Same H H' → Q (.int (Mir.cellI ns k)) H'
theorem ok_cell (d__law_cell : Df K mg "_law_cell" st__law_cell ["_law_script", "_law_k"]) (mLen : mg "len" = none) : FnOk P w K mg base CX0 1 d__law_cell.f d__law_cell.fd ["_law_script", "_law_k"] (spCellK K) := by
  refine d__law_cell.F.ok sc__law_cell (fun vs H Q E h => ?_) (fun cdv A outer s H vs Q E hr h => ?_)
  · obtain ⟨a, ns, k, rfl, _⟩ := h
    rfl
  · obtain ⟨a, ns, k, rfl, hS, hz, hQ⟩ := h
    refine ⟨_, (pss_cons (ps_if (pt_cmpR (op_eqD hr.units) (pv 0) (pe_lst pa_nil) (nomark _))
    (pss_one (ps_ret (pe_op op_mulE (pv 1) pe_int)))
    pss_nil)
  (pss_one (ps_ret (pe_op op_addE (pe_ix ix_list (pv 0) (pe_op op_modE (pv 1) (pe_len mLen (pv 0))) (fun _ _ => rfl)) (pe_op op_mulE (pe_op op_fdivE (pv 1) (pe_len mLen (pv 0))) pe_int))))), ?_⟩
    refine ⟨_, rfl, Nat.zero_le _, fun p np => ?_⟩
    have s1 : Same H (upd H p (.lst [])) := fun b o e => by rw [upd_ne (ne_of_none e np)]; exact e
    have hS1 := s1.seq hS
    have el : ((ns.map V.int).length) = ns.length := List.length_map _
    refine ⟨.list (ns.map PyData.int), .list [], .lst hS1 (dp_ints ns), .lst (SqL.of upd_same) .nil, shaped_ints ns, shaped_nil, _, rfl, ?_⟩
    rw [eqv_ints_nil]
    refine iteD (fun h0 => ?_) (fun h0 => ?_)
    · refine ⟨_, rfl, _, _, _, rfl, rfl, .inr ⟨by decide, by decide⟩, rfl, ?_⟩
      have e : Mir.cellI ns k = (k : Int) * 7919 := if_pos h0
      rw [e] at hQ
      exact hQ _ s1
    · have hp : 0 < ns.length := List.length_pos_iff.mpr h0
      have hm : k % ns.length < ns.length := Nat.mod_lt _ hp
      refine ⟨_, rfl, _, rfl, _, rfl, a, _, rfl, .inl hS1, _, _, ((k % ns.length : Nat) : Int), rfl, rfl, by omega, by show ((k % ns.length : Nat) : Int) = (k : Int) % ((ns.map V.int).length : Nat); rw [el]; omega, ?_⟩
      refine ⟨a, _, _, .int (ns.getD (k % ns.length) 0), rfl, rfl, hS1, atI_nat (by rw [List.getElem?_map, List.getElem?_eq_getElem hm, List.getD_eq_getElem?_getD, List.getElem?_eq_getElem hm]; rfl), ?_⟩
      refine ⟨_, rfl, _, rfl, a, _, rfl, .inl hS1, _, _, ((k / ns.length : Nat) : Int), rfl, rfl, ⟨by omega, by omega⟩, by show ((k / ns.length : Nat) : Int) = (k : Int) / ((ns.map V.int).length : Nat); rw [el]; omega, ?_⟩
      refine ⟨_, _, _, rfl, rfl, .inr ⟨by decide, by decide⟩, rfl, _, _, _, rfl, rfl, rfl, ?_⟩
      have e : Mir.cellI ns k = ns.getD (k % ns.length) 0 + ((k / ns.length : Nat) : Int) * 104729 := if_neg h0
      rw [e] at hQ
      exact hQ _ s1
/-! ### _law_drawn -/
def N__law_drawn : List Str := ["_law_cell_here", "_law_k", "_law_more"]
theorem sc__law_drawn : FnScope ["_law_cell_here", "_law_k", "_law_more"] ["_law_cell_here", "_law_k"] (defScope st__law_drawn) := ⟨rfl, rfl, rfl, by decide +kernel, rfl, by decide +kernel, by decide +kernel⟩
def spDrawn : Sp := fun vs H Q _ => ∃ (c : Int) (k : Nat), vs = [.int c, .int (k : Int)] ∧ Q (.int (Mir.drawn c k)) H
theorem sm_more (c : Int) (k : Nat) : Sm (Mir.moreI c k) := by
  have h := Mir.moreI_nn c k
  refine Sm.of ?_ ?_
  · have : (0 : Int) ≤ 2 ^ 199 := by decide
    omega
  · have : (340282366920938463463374607431768211507 : Int) ≤ 2 ^ 199 := by decide
    omega
theorem ok_drawn (d__law_drawn : Df K mg "_law_drawn" st__law_drawn ["_law_cell_here", "_law_k"]) : FnOk P w K mg base CX0 1 d__law_drawn.f d__law_drawn.fd ["_law_cell_here", "_law_k"] spDrawn := by
  refine d__law_drawn.F.ok sc__law_drawn (fun vs H Q E h => ?_) (fun cdv A outer s H vs Q E hr h => ?_)
  · obtain ⟨c, k, rfl, _⟩ := h
    rfl
  · obtain ⟨c, k, rfl, hQ⟩ := h
    have nd := sc__law_drawn.nd
    refine ⟨_, (pss_cons (ps_set (i := 2) nd rfl (Or.inl rfl) (pe_op op_modE (pe_op op_addE (pe_op op_mulE (pv 0) pe_int) (pe_op op_mulE (pe_op op_addE (pv 1) pe_int) pe_int)) pe_int))
  (pss_one (ps_ret (pe_op op_modE (pe_op op_mulB (pv 2) (pv 2)) pe_int)))), ?_⟩
    refine ⟨_, rfl, _, _, _, rfl, rfl, .inr ⟨by decide, by decide⟩, rfl, _, rfl, _, _, _, rfl, rfl, rfl, _, _, _, rfl, rfl, .inr ⟨by decide, by decide⟩, rfl, _, _, _, rfl, rfl, rfl, _, _, Mir.moreI c k, rfl, rfl, (by show (0 : Int) < 340282366920938463463374607431768211507; decide), rfl, ?_⟩
    refine ⟨_, rfl, _, rfl, _, _, _, rfl, rfl, ⟨sm_more c k, sm_more c k⟩, rfl, _, _, Mir.drawn c k, rfl, rfl, (by show (0 : Int) < 340282366920938463463374607431768211297; decide), rfl, hQ⟩
end
end Ord

namespace Ord
open PySem PySem.Spec PyProof.Rows L2 LamX
theorem eqI {i j : Int} : V.int i = V.int j ↔ i = j := ⟨fun h => V.int.inj h, fun h => by rw [h]⟩
theorem iteI {i j : Int} {A B : Prop} (h1 : i = j → A) (h2 : ¬ i = j → B) : if decide (V.int i = V.int j) = true then A else B := iteD (fun e => h1 (eqI.mp e)) fun e => h2 fun z => e (eqI.mpr z)
section
variable {P : Program} {w : World} {K : PySem.W.Frag} {mg : Str → Option Value} {base : Heap}
/-! ### _law_log -/
end
end Ord

/-! What the defs of yourorder.rows compute, over any answers. -/
namespace Mir
section
variable {α : Type}
abbrev Ans (α : Type) := List (α × α) → α → α → Int
def mrg (ans : Ans α) : List α → List α → List (α × α) → List α × List (α × α)
  | [], ys, l => (ys, l)
  | x :: xs, [], l => (x :: xs, l)
  | x :: xs, y :: ys, l =>
    if ans l x y ≤ 0 then (x :: (mrg ans xs (y :: ys) (l ++ [(x, y)])).1, (mrg ans xs (y :: ys) (l ++ [(x, y)])).2)
    else (y :: (mrg ans (x :: xs) ys (l ++ [(x, y)])).1, (mrg ans (x :: xs) ys (l ++ [(x, y)])).2)
termination_by xs ys => xs.length + ys.length
theorem mrg_nil (ans : Ans α) (ys : List α) (l : List (α × α)) : mrg ans [] ys l = (ys, l) := by unfold mrg; rfl
theorem mrg_nil2 (ans : Ans α) (xs : List α) (l : List (α × α)) : mrg ans xs [] l = (xs, l) := by
  cases xs with
  | nil => unfold mrg; rfl
  | cons x xs => unfold mrg; rfl
theorem mrg_cons (ans : Ans α) (x y : α) (xs ys : List α) (l : List (α × α)) : mrg ans (x :: xs) (y :: ys) l =
    if ans l x y ≤ 0 then (x :: (mrg ans xs (y :: ys) (l ++ [(x, y)])).1, (mrg ans xs (y :: ys) (l ++ [(x, y)])).2)
    else (y :: (mrg ans (x :: xs) ys (l ++ [(x, y)])).1, (mrg ans (x :: xs) ys (l ++ [(x, y)])).2) := by
  rw [mrg]
theorem drop_cons {xs : List α} {i : Nat} {x : α} (e : xs[i]? = some x) : xs.drop i = x :: xs.drop (i + 1) := by
  obtain ⟨h, e⟩ := List.getElem?_eq_some_iff.mp e
  rw [← e]
  exact List.drop_eq_getElem_cons h
/-- all but the last two questions' lengths: how long what is told is -/
theorem mrg_len (ans : Ans α) : ∀ (xs ys : List α) (l : List (α × α)), (mrg ans xs ys l).1.length = xs.length + ys.length
  | [], ys, l => by rw [mrg_nil]; simp
  | x :: xs, [], l => by rw [mrg_nil2]; simp
  | x :: xs, y :: ys, l => by
    have h1 := mrg_len ans xs (y :: ys) (l ++ [(x, y)])
    have h2 := mrg_len ans (x :: xs) ys (l ++ [(x, y)])
    rw [mrg_cons]
    split
    · simp only [List.length_cons] at h1 ⊢
      omega
    · simp only [List.length_cons] at h2 ⊢
      omega
termination_by xs ys => xs.length + ys.length
def stab (ans : Ans α) (xs : List α) (l : List (α × α)) : List α × List (α × α) :=
  if h : xs.length < 2 then (xs, l)
  else
    let a := stab ans (xs.take ((xs.length + 1) / 2)) l
    let b := stab ans (xs.drop ((xs.length + 1) / 2)) a.2
    match a.1.getLast?, b.1.head? with
    | some x, some y => if ans b.2 x y ≤ 0 then (a.1 ++ b.1, b.2 ++ [(x, y)]) else mrg ans a.1 b.1 (b.2 ++ [(x, y)])
    | _, _ => (a.1 ++ b.1, b.2)
termination_by xs.length
decreasing_by
  · rw [List.length_take]; omega
  · rw [List.length_drop]; omega
theorem mrg_mem (ans : Ans α) : ∀ (xs ys : List α) (l : List (α × α)) (z : α), z ∈ (mrg ans xs ys l).1 → z ∈ xs ∨ z ∈ ys
  | [], ys, l, z, h => by rw [mrg_nil] at h; exact .inr h
  | x :: xs, [], l, z, h => by rw [mrg_nil2] at h; exact .inl h
  | x :: xs, y :: ys, l, z, h => by
    have h1 := mrg_mem ans xs (y :: ys) (l ++ [(x, y)]) z
    have h2 := mrg_mem ans (x :: xs) ys (l ++ [(x, y)]) z
    rw [mrg_cons] at h
    split at h
    · rcases List.mem_cons.mp h with e | e
      · exact .inl (List.mem_cons.mpr (.inl e))
      · rcases h1 e with q | q
        · exact .inl (List.mem_cons_of_mem _ q)
        · exact .inr q
    · rcases List.mem_cons.mp h with e | e
      · exact .inr (List.mem_cons.mpr (.inl e))
      · rcases h2 e with q | q
        · exact .inl q
        · exact .inr (List.mem_cons_of_mem _ q)
termination_by xs ys => xs.length + ys.length
theorem stab_small (ans : Ans α) {xs : List α} (l : List (α × α)) (h : xs.length < 2) : stab ans xs l = (xs, l) := by
  rw [stab, dif_pos h]
theorem stab_big (ans : Ans α) {xs : List α} (l : List (α × α)) (h : ¬ xs.length < 2) : stab ans xs l =
    match (stab ans (xs.take ((xs.length + 1) / 2)) l).1.getLast?, (stab ans (xs.drop ((xs.length + 1) / 2)) (stab ans (xs.take ((xs.length + 1) / 2)) l).2).1.head? with
    | some x, some y => if ans (stab ans (xs.drop ((xs.length + 1) / 2)) (stab ans (xs.take ((xs.length + 1) / 2)) l).2).2 x y ≤ 0 then ((stab ans (xs.take ((xs.length + 1) / 2)) l).1 ++ (stab ans (xs.drop ((xs.length + 1) / 2)) (stab ans (xs.take ((xs.length + 1) / 2)) l).2).1, (stab ans (xs.drop ((xs.length + 1) / 2)) (stab ans (xs.take ((xs.length + 1) / 2)) l).2).2 ++ [(x, y)])
      else mrg ans (stab ans (xs.take ((xs.length + 1) / 2)) l).1 (stab ans (xs.drop ((xs.length + 1) / 2)) (stab ans (xs.take ((xs.length + 1) / 2)) l).2).1 ((stab ans (xs.drop ((xs.length + 1) / 2)) (stab ans (xs.take ((xs.length + 1) / 2)) l).2).2 ++ [(x, y)])
    | _, _ => ((stab ans (xs.take ((xs.length + 1) / 2)) l).1 ++ (stab ans (xs.drop ((xs.length + 1) / 2)) (stab ans (xs.take ((xs.length + 1) / 2)) l).2).1, (stab ans (xs.drop ((xs.length + 1) / 2)) (stab ans (xs.take ((xs.length + 1) / 2)) l).2).2) := by
  rw [stab, dif_neg h]
/-- the step by what the halves give -/
theorem stab_step (ans : Ans α) {xs : List α} (l : List (α × α)) (h : ¬ xs.length < 2) {a b : List α × List (α × α)} (ea : stab ans (xs.take ((xs.length + 1) / 2)) l = a) (eb : stab ans (xs.drop ((xs.length + 1) / 2)) a.2 = b) {x y : α} (ex : a.1.getLast? = some x) (ey : b.1.head? = some y) :
    stab ans xs l = if ans b.2 x y ≤ 0 then (a.1 ++ b.1, b.2 ++ [(x, y)]) else mrg ans a.1 b.1 (b.2 ++ [(x, y)]) := by
  rw [stab_big ans l h, ea, eb, ex, ey]
theorem stab_len (ans : Ans α) (n : Nat) : ∀ (xs : List α) (l : List (α × α)), xs.length ≤ n → (stab ans xs l).1.length = xs.length := by
  induction n with
  | zero => intro xs l h; rw [stab_small ans l (by omega)]
  | succ n ih =>
    intro xs l h
    by_cases h2 : xs.length < 2
    · rw [stab_small ans l h2]
    · have t1 : (xs.take ((xs.length + 1) / 2)).length = (xs.length + 1) / 2 := by rw [List.length_take]; omega
      have t2 : (xs.drop ((xs.length + 1) / 2)).length = xs.length - (xs.length + 1) / 2 := List.length_drop
      have i1 := ih (xs.take ((xs.length + 1) / 2)) l (by omega)
      have i2 := ih (xs.drop ((xs.length + 1) / 2)) (stab ans (xs.take ((xs.length + 1) / 2)) l).2 (by omega)
      obtain ⟨x, ex⟩ : ∃ x, (stab ans (xs.take ((xs.length + 1) / 2)) l).1.getLast? = some x := by
        rw [List.getLast?_eq_getElem?]
        exact ⟨_, List.getElem?_eq_getElem (by omega)⟩
      obtain ⟨y, ey⟩ : ∃ y, (stab ans (xs.drop ((xs.length + 1) / 2)) (stab ans (xs.take ((xs.length + 1) / 2)) l).2).1.head? = some y := by
        rw [List.head?_eq_getElem?]
        exact ⟨_, List.getElem?_eq_getElem (by omega)⟩
      rw [stab_step ans l h2 rfl rfl ex ey]
      split
      · rw [List.length_append]; omega
      · rw [mrg_len]; omega
theorem stab_mem (ans : Ans α) (n : Nat) : ∀ (xs : List α) (l : List (α × α)) (z : α), xs.length ≤ n → z ∈ (stab ans xs l).1 → z ∈ xs := by
  induction n with
  | zero => intro xs l z h hz; rw [stab_small ans l (by omega)] at hz; exact hz
  | succ n ih =>
    intro xs l z h hz
    by_cases h2 : xs.length < 2
    · rw [stab_small ans l h2] at hz; exact hz
    · have t1 : (xs.take ((xs.length + 1) / 2)).length = (xs.length + 1) / 2 := by rw [List.length_take]; omega
      have t2 : (xs.drop ((xs.length + 1) / 2)).length = xs.length - (xs.length + 1) / 2 := List.length_drop
      have l1 := stab_len ans n (xs.take ((xs.length + 1) / 2)) l (by omega)
      have l2 := stab_len ans n (xs.drop ((xs.length + 1) / 2)) (stab ans (xs.take ((xs.length + 1) / 2)) l).2 (by omega)
      have i1 := ih (xs.take ((xs.length + 1) / 2)) l z (by omega)
      have i2 := ih (xs.drop ((xs.length + 1) / 2)) (stab ans (xs.take ((xs.length + 1) / 2)) l).2 z (by omega)
      have key : z ∈ (stab ans (xs.take ((xs.length + 1) / 2)) l).1 ∨ z ∈ (stab ans (xs.drop ((xs.length + 1) / 2)) (stab ans (xs.take ((xs.length + 1) / 2)) l).2).1 → z ∈ xs := fun q => q.elim (fun q => List.mem_of_mem_take (i1 q)) fun q => List.mem_of_mem_drop (i2 q)
      obtain ⟨x, ex⟩ : ∃ x, (stab ans (xs.take ((xs.length + 1) / 2)) l).1.getLast? = some x := by
        rw [List.getLast?_eq_getElem?]
        exact ⟨_, List.getElem?_eq_getElem (by omega)⟩
      obtain ⟨y, ey⟩ : ∃ y, (stab ans (xs.drop ((xs.length + 1) / 2)) (stab ans (xs.take ((xs.length + 1) / 2)) l).2).1.head? = some y := by
        rw [List.head?_eq_getElem?]
        exact ⟨_, List.getElem?_eq_getElem (by omega)⟩
      rw [stab_step ans l h2 rfl rfl ex ey] at hz
      split at hz
      · exact key (List.mem_append.mp hz)
      · exact key (mrg_mem ans _ _ _ z hz)
theorem mrg_cnt (ans : Ans α) : ∀ (xs ys : List α) (l : List (α × α)), l.length ≤ (mrg ans xs ys l).2.length ∧ (mrg ans xs ys l).2.length ≤ l.length + (xs.length + ys.length - 1) ∧ ((xs = [] ∨ ys = []) → (mrg ans xs ys l).2 = l)
  | [], ys, l => by rw [mrg_nil]; exact ⟨Nat.le_refl _, Nat.le_add_right _ _, fun _ => rfl⟩
  | x :: xs, [], l => by rw [mrg_nil2]; exact ⟨Nat.le_refl _, Nat.le_add_right _ _, fun _ => rfl⟩
  | x :: xs, y :: ys, l => by
    have h1 := mrg_cnt ans xs (y :: ys) (l ++ [(x, y)])
    have h2 := mrg_cnt ans (x :: xs) ys (l ++ [(x, y)])
    rw [mrg_cons]
    split
    · simp only [List.length_append, List.length_cons, List.length_nil] at h1 ⊢
      refine ⟨by omega, by omega, fun h => ?_⟩
      rcases h with h | h <;> cases h
    · simp only [List.length_append, List.length_cons, List.length_nil] at h2 ⊢
      refine ⟨by omega, by omega, fun h => ?_⟩
      rcases h with h | h <;> cases h
termination_by xs ys => xs.length + ys.length
theorem clog_half {n : Nat} (h : ¬ n < 2) : clog n = clog ((n + 1) / 2) + 1 := by
  rw [clog, if_neg (by omega)]
theorem stab_cnt (ans : Ans α) (n : Nat) : ∀ (xs : List α) (l : List (α × α)), xs.length ≤ n → l.length ≤ (stab ans xs l).2.length ∧ (stab ans xs l).2.length ≤ l.length + xs.length * clog xs.length := by
  induction n with
  | zero => intro xs l h; rw [stab_small ans l (by omega)]; exact ⟨Nat.le_refl _, Nat.le_add_right _ _⟩
  | succ n ih =>
    intro xs l h
    by_cases h2 : xs.length < 2
    · rw [stab_small ans l h2]; exact ⟨Nat.le_refl _, Nat.le_add_right _ _⟩
    · have t1 : (xs.take ((xs.length + 1) / 2)).length = (xs.length + 1) / 2 := by rw [List.length_take]; omega
      have t2 : (xs.drop ((xs.length + 1) / 2)).length = xs.length - (xs.length + 1) / 2 := List.length_drop
      have i1 := ih (xs.take ((xs.length + 1) / 2)) l (by omega)
      have i2 := ih (xs.drop ((xs.length + 1) / 2)) (stab ans (xs.take ((xs.length + 1) / 2)) l).2 (by omega)
      have l1 := stab_len ans n (xs.take ((xs.length + 1) / 2)) l (by omega)
      have l2 := stab_len ans n (xs.drop ((xs.length + 1) / 2)) (stab ans (xs.take ((xs.length + 1) / 2)) l).2 (by omega)
      rw [t1] at i1 l1
      rw [t2] at i2 l2
      obtain ⟨c, ec⟩ : ∃ c, c = clog ((xs.length + 1) / 2) := ⟨_, rfl⟩
      have m2 : clog (xs.length - (xs.length + 1) / 2) ≤ c := by rw [ec]; exact clog_mono (by omega)
      have m3 := Nat.mul_le_mul_left (xs.length - (xs.length + 1) / 2) m2
      have m4 : (xs.length + 1) / 2 * c + (xs.length - (xs.length + 1) / 2) * c = xs.length * c := by
        rw [← Nat.add_mul]
        congr 1
        omega
      have m5 : xs.length * (c + 1) = xs.length * c + xs.length := Nat.mul_succ _ _
      rw [clog_half h2, ← ec, m5]
      rw [← ec] at i1
      obtain ⟨x, ex⟩ : ∃ x, (stab ans (xs.take ((xs.length + 1) / 2)) l).1.getLast? = some x := by
        rw [List.getLast?_eq_getElem?]
        exact ⟨_, List.getElem?_eq_getElem (by omega)⟩
      obtain ⟨y, ey⟩ : ∃ y, (stab ans (xs.drop ((xs.length + 1) / 2)) (stab ans (xs.take ((xs.length + 1) / 2)) l).2).1.head? = some y := by
        rw [List.head?_eq_getElem?]
        exact ⟨_, List.getElem?_eq_getElem (by omega)⟩
      rw [stab_step ans l h2 rfl rfl ex ey]
      split
      · rw [List.length_append, List.length_singleton]
        omega
      · have q := mrg_cnt ans (stab ans (xs.take ((xs.length + 1) / 2)) l).1 (stab ans (xs.drop ((xs.length + 1) / 2)) (stab ans (xs.take ((xs.length + 1) / 2)) l).2).1 ((stab ans (xs.drop ((xs.length + 1) / 2)) (stab ans (xs.take ((xs.length + 1) / 2)) l).2).2 ++ [(x, y)])
        rw [l1, l2, List.length_append, List.length_singleton] at q
        omega
end
end Mir

/-! Sorting by a key: what stands in the stable order. -/
namespace Mir
section
variable {α : Type}
/-- in order by a key -/
abbrev Srt (key : α → Int) (xs : List α) : Prop := xs.Pairwise fun a b => key a ≤ key b
/-- those of a key -/
def ofK (key : α → Int) (k : Int) (xs : List α) : List α := xs.filter fun x => decide (key x = k)
theorem ofK_nil (key : α → Int) (k : Int) : ofK key k ([] : List α) = [] := rfl
theorem ofK_cons (key : α → Int) (k : Int) (x : α) (xs : List α) : ofK key k (x :: xs) = if key x = k then x :: ofK key k xs else ofK key k xs := by
  unfold ofK
  rw [List.filter_cons]
  by_cases h : key x = k
  · simp [h]
  · simp [h]
theorem ofK_append (key : α → Int) (k : Int) (xs ys : List α) : ofK key k (xs ++ ys) = ofK key k xs ++ ofK key k ys := by unfold ofK; exact List.filter_append _ _
theorem ofK_none {key : α → Int} {k : Int} {xs : List α} (h : ∀ x ∈ xs, key x ≠ k) : ofK key k xs = [] := by
  unfold ofK
  rw [List.filter_eq_nil_iff]
  intro x hx
  simp [h x hx]
theorem sort_uniq (key : α → Int) : ∀ (xs ys : List α), Srt key xs → Srt key ys → (∀ k, ofK key k xs = ofK key k ys) → xs = ys
  | [], [], _, _, _ => rfl
  | [], y :: ys, _, _, h => by
    have e := h (key y)
    rw [ofK_nil, ofK_cons, if_pos rfl] at e
    cases e
  | x :: xs, [], _, _, h => by
    have e := h (key x)
    rw [ofK_nil, ofK_cons, if_pos rfl] at e
    cases e
  | x :: xs, y :: ys, hx, hy, h => by
    obtain ⟨x1, x2⟩ := List.pairwise_cons.mp hx
    obtain ⟨y1, y2⟩ := List.pairwise_cons.mp hy
    have hk : key x = key y := by
      rcases Int.lt_trichotomy (key x) (key y) with c | c | c
      · have e := h (key x)
        rw [ofK_cons, if_pos rfl, ofK_none (xs := y :: ys) (fun z hz => by
          rcases List.mem_cons.mp hz with q | q
          · rw [q]; omega
          · have := y1 z q; omega)] at e
        cases e
      · exact c
      · have e := h (key y)
        rw [ofK_cons key _ y, if_pos rfl, ofK_none (xs := x :: xs) (fun z hz => by
          rcases List.mem_cons.mp hz with q | q
          · rw [q]; omega
          · have := x1 z q; omega)] at e
        cases e
    have e := h (key x)
    rw [ofK_cons, ofK_cons, if_pos rfl, if_pos hk.symm] at e
    injection e with e1 e2
    subst e1
    rw [sort_uniq key xs ys x2 y2 fun k => ?_]
    have e := h k
    rw [ofK_cons, ofK_cons] at e
    by_cases q : key x = k
    · rw [if_pos q, if_pos q] at e
      injection e
    · rw [if_neg q, if_neg q] at e
      exact e
variable {ans : Ans α} {key : α → Int}
theorem mrg_srt (A : KeyA ans key) : ∀ (xs ys : List α) (l : List (α × α)), Srt key xs → Srt key ys → Srt key (mrg ans xs ys l).1 ∧ ∀ k, ofK key k (mrg ans xs ys l).1 = ofK key k xs ++ ofK key k ys
  | [], ys, l, hx, hy => by rw [mrg_nil]; exact ⟨hy, fun k => rfl⟩
  | x :: xs, [], l, hx, hy => by rw [mrg_nil2]; exact ⟨hx, fun k => (List.append_nil _).symm⟩
  | x :: xs, y :: ys, l, hx, hy => by
    obtain ⟨x1, x2⟩ := List.pairwise_cons.mp hx
    obtain ⟨y1, y2⟩ := List.pairwise_cons.mp hy
    rw [mrg_cons]
    split
    · rename_i q
      have q := (A.le _ _ _).mp q
      obtain ⟨i1, i2⟩ := mrg_srt A xs (y :: ys) (l ++ [(x, y)]) x2 hy
      refine ⟨List.pairwise_cons.mpr ⟨fun z hz => ?_, i1⟩, fun k => ?_⟩
      · rcases mrg_mem ans _ _ _ z hz with m | m
        · exact x1 z m
        · rcases List.mem_cons.mp m with m | m
          · rw [m]; exact q
          · have := y1 z m; omega
      · show ofK key k (x :: _) = _
        rw [ofK_cons, ofK_cons, i2 k]
        split <;> rfl
    · rename_i q
      have q : key y < key x := by
        have := A.le l x y
        omega
      obtain ⟨i1, i2⟩ := mrg_srt A (x :: xs) ys (l ++ [(x, y)]) hx y2
      refine ⟨List.pairwise_cons.mpr ⟨fun z hz => ?_, i1⟩, fun k => ?_⟩
      · rcases mrg_mem ans _ _ _ z hz with m | m
        · rcases List.mem_cons.mp m with m | m
          · rw [m]; omega
          · have := x1 z m; omega
        · exact y1 z m
      · show ofK key k (y :: _) = _
        rw [ofK_cons, i2 k, ofK_cons key k y ys]
        split
        · rename_i e
          rw [ofK_none (xs := x :: xs) (fun z hz => by
            rcases List.mem_cons.mp hz with m | m
            · rw [m]; omega
            · have := x1 z m; omega)]
          rfl
        · rfl
termination_by xs ys => xs.length + ys.length
theorem srt_append {xs ys : List α} {x y : α} (hx : Srt key xs) (hy : Srt key ys) (ex : xs.getLast? = some x) (ey : ys.head? = some y) (h : key x ≤ key y) : Srt key (xs ++ ys) := by
  refine List.pairwise_append.mpr ⟨hx, hy, fun a ha b hb => ?_⟩
  obtain ⟨r, er⟩ := List.getLast?_eq_some_iff.mp ex
  have h1 : key a ≤ key x := by
    rw [er] at ha hx
    rcases List.mem_append.mp ha with m | m
    · exact (List.pairwise_append.mp hx).2.2 a m x (List.mem_singleton.mpr rfl)
    · rw [List.mem_singleton.mp m]; omega
  have h2 : key y ≤ key b := by
    cases ys with
    | nil => cases hb
    | cons z zs =>
      have : z = y := Option.some.inj ey
      subst this
      rcases List.mem_cons.mp hb with m | m
      · rw [m]; omega
      · exact (List.pairwise_cons.mp hy).1 b m
  omega
theorem stab_srt (A : KeyA ans key) (n : Nat) : ∀ (xs : List α) (l : List (α × α)), xs.length ≤ n → Srt key (stab ans xs l).1 ∧ ∀ k, ofK key k (stab ans xs l).1 = ofK key k xs := by
  induction n with
  | zero =>
    intro xs l h
    have e : xs = [] := List.length_eq_zero_iff.mp (by omega)
    subst e
    rw [stab_small ans l (by simp)]
    exact ⟨List.Pairwise.nil, fun k => rfl⟩
  | succ n ih =>
    intro xs l h
    by_cases h2 : xs.length < 2
    · rw [stab_small ans l h2]
      refine ⟨?_, fun k => rfl⟩
      cases xs with
      | nil => exact List.Pairwise.nil
      | cons x r =>
        cases r with
        | nil => exact List.pairwise_singleton _ _
        | cons y s => exact absurd h2 (by simp)
    · have t1 : (xs.take ((xs.length + 1) / 2)).length = (xs.length + 1) / 2 := by rw [List.length_take]; omega
      have t2 : (xs.drop ((xs.length + 1) / 2)).length = xs.length - (xs.length + 1) / 2 := List.length_drop
      obtain ⟨i1, i2⟩ := ih (xs.take ((xs.length + 1) / 2)) l (by omega)
      obtain ⟨j1, j2⟩ := ih (xs.drop ((xs.length + 1) / 2)) (stab ans (xs.take ((xs.length + 1) / 2)) l).2 (by omega)
      have l1 := stab_len ans n (xs.take ((xs.length + 1) / 2)) l (by omega)
      have l2 := stab_len ans n (xs.drop ((xs.length + 1) / 2)) (stab ans (xs.take ((xs.length + 1) / 2)) l).2 (by omega)
      have both : ∀ k, ofK key k (xs.take ((xs.length + 1) / 2)) ++ ofK key k (xs.drop ((xs.length + 1) / 2)) = ofK key k xs := fun k => by
        rw [← ofK_append, List.take_append_drop]
      obtain ⟨x, ex⟩ : ∃ x, (stab ans (xs.take ((xs.length + 1) / 2)) l).1.getLast? = some x := by
        rw [List.getLast?_eq_getElem?]
        exact ⟨_, List.getElem?_eq_getElem (by omega)⟩
      obtain ⟨y, ey⟩ : ∃ y, (stab ans (xs.drop ((xs.length + 1) / 2)) (stab ans (xs.take ((xs.length + 1) / 2)) l).2).1.head? = some y := by
        rw [List.head?_eq_getElem?]
        exact ⟨_, List.getElem?_eq_getElem (by omega)⟩
      rw [stab_step ans l h2 rfl rfl ex ey]
      split
      · rename_i q
        refine ⟨srt_append i1 j1 ex ey ((A.le _ _ _).mp q), fun k => ?_⟩
        show ofK key k (_ ++ _) = _
        rw [ofK_append, i2, j2, both]
      · obtain ⟨m1, m2⟩ := mrg_srt A _ _ ((stab ans (xs.drop ((xs.length + 1) / 2)) (stab ans (xs.take ((xs.length + 1) / 2)) l).2).2 ++ [(x, y)]) i1 j1
        exact ⟨m1, fun k => by rw [m2, i2, j2, both]⟩
/-! ### insertion -/
theorem plc_spec (key : α → Int) (made : List α) (e : α) : ∀ n, n ≤ made.length → (∀ j z, plc key made e n ≤ j → j < n → made[j]? = some z → key e < key z) ∧ (0 < plc key made e n → ∃ z, made[plc key made e n - 1]? = some z ∧ key z ≤ key e)
  | 0, _ => ⟨fun j z _ h => absurd h (Nat.not_lt_zero j), fun h => by rw [plc_zero] at h; omega⟩
  | n + 1, h => by
    obtain ⟨i1, i2⟩ := plc_spec key made e n (by omega)
    obtain ⟨z, hz⟩ : ∃ z, made[n]? = some z := ⟨_, List.getElem?_eq_getElem (by omega)⟩
    by_cases q : key e < key z
    · rw [plc_lt hz q]
      refine ⟨fun j z' h1 h2 h3 => ?_, i2⟩
      by_cases hj : j < n
      · exact i1 j z' h1 hj h3
      · have : j = n := by omega
        subst this
        rw [hz] at h3
        cases h3
        exact q
    · rw [plc_ge hz q]
      exact ⟨fun j z' h1 h2 _ => by omega, fun _ => ⟨z, hz, by omega⟩⟩
theorem srt_get {xs : List α} (h : Srt key xs) {i j : Nat} {x y : α} (hij : i ≤ j) (ex : xs[i]? = some x) (ey : xs[j]? = some y) : key x ≤ key y := by
  obtain ⟨h1, e1⟩ := List.getElem?_eq_some_iff.mp ex
  obtain ⟨h2, e2⟩ := List.getElem?_eq_some_iff.mp ey
  by_cases q : i = j
  · subst q
    rw [e1] at e2
    rw [e2]
    omega
  · have := List.pairwise_iff_getElem.mp h i j h1 h2 (by omega)
    rw [e1, e2] at this
    exact this
theorem ins1_srt {made : List α} (e : α) (h : Srt key made) : Srt key (ins1 key made e) ∧ ∀ k, ofK key k (ins1 key made e) = ofK key k made ++ ofK key k [e] := by
  obtain ⟨s1, s2⟩ := plc_spec key made e made.length (Nat.le_refl _)
  have hp := plc_le key made e made.length
  obtain ⟨p, ep⟩ : ∃ p, p = plc key made e made.length := ⟨_, rfl⟩
  rw [← ep] at s1 s2 hp
  have lo : ∀ z ∈ made.take p, key z ≤ key e := fun z hz => by
    obtain ⟨i, hi⟩ := List.mem_iff_getElem?.mp hz
    have hip : i < p := by
      have := (List.getElem?_eq_some_iff.mp hi).1
      rw [List.length_take] at this
      omega
    rw [List.getElem?_take_of_lt hip] at hi
    obtain ⟨y, hy, hy2⟩ := s2 (by omega)
    have := srt_get h (show i ≤ p - 1 by omega) hi hy
    omega
  have hi : ∀ z ∈ made.drop p, key e < key z := fun z hz => by
    obtain ⟨i, hi⟩ := List.mem_iff_getElem?.mp hz
    rw [List.getElem?_drop] at hi
    exact s1 (p + i) z (by omega) (List.getElem?_eq_some_iff.mp hi).1 hi
  have ht : Srt key (made.take p) := h.sublist (List.take_sublist _ _)
  have hd : Srt key (made.drop p) := h.sublist (List.drop_sublist _ _)
  have hc : ∀ a ∈ made.take p, ∀ b ∈ made.drop p, key a ≤ key b := fun a ha b hb => by
    have := lo a ha
    have := hi b hb
    omega
  unfold ins1
  rw [← ep]
  refine ⟨?_, fun k => ?_⟩
  · refine List.pairwise_append.mpr ⟨List.pairwise_append.mpr ⟨ht, List.pairwise_singleton _ _, fun a ha b hb => ?_⟩, hd, fun a ha b hb => ?_⟩
    · rw [List.mem_singleton.mp hb]
      exact lo a ha
    · rcases List.mem_append.mp ha with m | m
      · exact hc a m b hb
      · rw [List.mem_singleton.mp m]
        have := hi b hb
        omega
  · rw [ofK_append, ofK_append]
    have e1 : ofK key k made = ofK key k (made.take p) ++ ofK key k (made.drop p) := by rw [← ofK_append, List.take_append_drop]
    rw [e1, List.append_assoc, List.append_assoc]
    congr 1
    by_cases q : key e = k
    · rw [ofK_none (xs := made.drop p) fun z hz => by have := hi z hz; omega]
      simp
    · rw [ofK_none (xs := [e]) fun z hz => by rw [List.mem_singleton.mp hz]; exact q]
      simp
theorem isort_srt (key : α → Int) (xs : List α) : Srt key (isort key xs) ∧ ∀ k, ofK key k (isort key xs) = ofK key k xs := by
  have : ∀ (ys acc : List α), Srt key acc → Srt key (ys.foldl (ins1 key) acc) ∧ ∀ k, ofK key k (ys.foldl (ins1 key) acc) = ofK key k acc ++ ofK key k ys := by
    intro ys
    induction ys with
    | nil => intro acc h; exact ⟨h, fun k => (List.append_nil _).symm⟩
    | cons y ys ih =>
      intro acc h
      obtain ⟨i1, i2⟩ := ins1_srt y h
      obtain ⟨j1, j2⟩ := ih _ i1
      rw [List.foldl_cons]
      refine ⟨j1, fun k => ?_⟩
      rw [j2, i2, List.append_assoc, ← ofK_append]
      rfl
  exact this xs [] List.Pairwise.nil
theorem isort_id {xs : List α} (h : Srt key xs) : isort key xs = xs := sort_uniq key _ _ (isort_srt key xs).1 h (isort_srt key xs).2
theorem isort_eq {xs ys : List α} (h : Srt key ys) (hk : ∀ k, ofK key k ys = ofK key k xs) : ys = isort key xs := sort_uniq key _ _ h (isort_srt key xs).1 fun k => by rw [hk, (isort_srt key xs).2]
/-- STABLE tells the stable order -/
theorem stab_isort (A : KeyA ans key) (xs : List α) (l : List (α × α)) : (stab ans xs l).1 = isort key xs := by
  obtain ⟨h1, h2⟩ := stab_srt A _ xs l (Nat.le_refl _)
  exact isort_eq h1 h2
/-- of a row in order: n - 1 questions at most -/
theorem stab_cnt_srt (A : KeyA ans key) (n : Nat) : ∀ (xs : List α) (l : List (α × α)), xs.length ≤ n → Srt key xs → (stab ans xs l).2.length ≤ l.length + (xs.length - 1) := by
  induction n with
  | zero => intro xs l h _; rw [stab_small ans l (by omega)]; exact Nat.le_add_right _ _
  | succ n ih =>
    intro xs l h hs
    by_cases h2 : xs.length < 2
    · rw [stab_small ans l h2]; exact Nat.le_add_right _ _
    · have t1 : (xs.take ((xs.length + 1) / 2)).length = (xs.length + 1) / 2 := by rw [List.length_take]; omega
      have t2 : (xs.drop ((xs.length + 1) / 2)).length = xs.length - (xs.length + 1) / 2 := List.length_drop
      have hs1 : Srt key (xs.take ((xs.length + 1) / 2)) := hs.sublist (List.take_sublist _ _)
      have hs2 : Srt key (xs.drop ((xs.length + 1) / 2)) := hs.sublist (List.drop_sublist _ _)
      have i1 := ih (xs.take ((xs.length + 1) / 2)) l (by omega) hs1
      have i2 := ih (xs.drop ((xs.length + 1) / 2)) (stab ans (xs.take ((xs.length + 1) / 2)) l).2 (by omega) hs2
      have e1 : (stab ans (xs.take ((xs.length + 1) / 2)) l).1 = xs.take ((xs.length + 1) / 2) := by rw [stab_isort A, isort_id hs1]
      have e2 : (stab ans (xs.drop ((xs.length + 1) / 2)) (stab ans (xs.take ((xs.length + 1) / 2)) l).2).1 = xs.drop ((xs.length + 1) / 2) := by rw [stab_isort A, isort_id hs2]
      obtain ⟨x, ex⟩ : ∃ x, (xs.take ((xs.length + 1) / 2)).getLast? = some x := by
        rw [List.getLast?_eq_getElem?]
        exact ⟨_, List.getElem?_eq_getElem (by omega)⟩
      obtain ⟨y, ey⟩ : ∃ y, (xs.drop ((xs.length + 1) / 2)).head? = some y := by
        rw [List.head?_eq_getElem?]
        exact ⟨_, List.getElem?_eq_getElem (by omega)⟩
      have hxy : key x ≤ key y := by
        have mx : x ∈ xs.take ((xs.length + 1) / 2) := List.mem_of_getLast? ex
        have my : y ∈ xs.drop ((xs.length + 1) / 2) := by
          rw [List.head?_eq_getElem?] at ey
          exact List.mem_of_getElem? ey
        have hs' := hs
        rw [← List.take_append_drop ((xs.length + 1) / 2) xs] at hs'
        exact (List.pairwise_append.mp hs').2.2 x mx y my
      rw [stab_step ans l h2 rfl rfl (by rw [e1]; exact ex) (by rw [e2]; exact ey), if_pos ((A.le _ _ _).mpr hxy), List.length_append, List.length_singleton]
      rw [t1] at i1
      rw [t2] at i2
      omega
/-! ### what is asked of -/
/-- the log grew by questions of P -/
def Grew (P : α × α → Prop) (l l' : List (α × α)) : Prop := ∃ m, l' = l ++ m ∧ ∀ z ∈ m, P z
theorem Grew.refl (P : α × α → Prop) (l : List (α × α)) : Grew P l l := ⟨[], (List.append_nil _).symm, fun z h => by cases h⟩
theorem Grew.trans {P : α × α → Prop} {l l1 l2 : List (α × α)} (a : Grew P l l1) (b : Grew P l1 l2) : Grew P l l2 := by
  obtain ⟨m, e, h⟩ := a
  obtain ⟨n, f, g⟩ := b
  refine ⟨m ++ n, by rw [f, e, List.append_assoc], fun z hz => ?_⟩
  rcases List.mem_append.mp hz with q | q
  · exact h z q
  · exact g z q
theorem Grew.mono {P Q : α × α → Prop} {l l' : List (α × α)} (a : Grew P l l') (h : ∀ z, P z → Q z) : Grew Q l l' := by
  obtain ⟨m, e, g⟩ := a
  exact ⟨m, e, fun z hz => h z (g z hz)⟩
theorem Grew.one {P : α × α → Prop} {l : List (α × α)} {z : α × α} (h : P z) : Grew P l (l ++ [z]) := ⟨[z], rfl, fun y hy => by rw [List.mem_singleton.mp hy]; exact h⟩
theorem Grew.of_nil {P : α × α → Prop} {l : List (α × α)} (a : Grew P [] l) : ∀ z ∈ l, P z := by
  obtain ⟨m, e, h⟩ := a
  rw [e]
  simpa using h
theorem mrg_grew (ans : Ans α) : ∀ (xs ys : List α) (l : List (α × α)), Grew (fun z => z.1 ∈ xs ∧ z.2 ∈ ys) l (mrg ans xs ys l).2
  | [], ys, l => by rw [mrg_nil]; exact .refl _ _
  | x :: xs, [], l => by rw [mrg_nil2]; exact .refl _ _
  | x :: xs, y :: ys, l => by
    have h1 := mrg_grew ans xs (y :: ys) (l ++ [(x, y)])
    have h2 := mrg_grew ans (x :: xs) ys (l ++ [(x, y)])
    rw [mrg_cons]
    split
    · exact (Grew.one ⟨List.mem_cons_self, List.mem_cons_self⟩).trans (h1.mono fun z h => ⟨List.mem_cons_of_mem _ h.1, h.2⟩)
    · exact (Grew.one ⟨List.mem_cons_self, List.mem_cons_self⟩).trans (h2.mono fun z h => ⟨h.1, List.mem_cons_of_mem _ h.2⟩)
termination_by xs ys => xs.length + ys.length
theorem stab_grew (ans : Ans α) (n : Nat) : ∀ (xs : List α) (l : List (α × α)), xs.length ≤ n → Grew (fun z => z.1 ∈ xs ∧ z.2 ∈ xs) l (stab ans xs l).2 := by
  induction n with
  | zero => intro xs l h; rw [stab_small ans l (by omega)]; exact .refl _ _
  | succ n ih =>
    intro xs l h
    by_cases h2 : xs.length < 2
    · rw [stab_small ans l h2]; exact .refl _ _
    · have t1 : (xs.take ((xs.length + 1) / 2)).length = (xs.length + 1) / 2 := by rw [List.length_take]; omega
      have t2 : (xs.drop ((xs.length + 1) / 2)).length = xs.length - (xs.length + 1) / 2 := List.length_drop
      have i1 := ih (xs.take ((xs.length + 1) / 2)) l (by omega)
      have i2 := ih (xs.drop ((xs.length + 1) / 2)) (stab ans (xs.take ((xs.length + 1) / 2)) l).2 (by omega)
      have l1 := stab_len ans n (xs.take ((xs.length + 1) / 2)) l (by omega)
      have l2 := stab_len ans n (xs.drop ((xs.length + 1) / 2)) (stab ans (xs.take ((xs.length + 1) / 2)) l).2 (by omega)
      have m1 : ∀ z, z ∈ (stab ans (xs.take ((xs.length + 1) / 2)) l).1 → z ∈ xs := fun z hz => List.mem_of_mem_take (stab_mem ans _ _ _ z (Nat.le_refl _) hz)
      have m2 : ∀ z, z ∈ (stab ans (xs.drop ((xs.length + 1) / 2)) (stab ans (xs.take ((xs.length + 1) / 2)) l).2).1 → z ∈ xs := fun z hz => List.mem_of_mem_drop (stab_mem ans _ _ _ z (Nat.le_refl _) hz)
      have g12 : Grew (fun z => z.1 ∈ xs ∧ z.2 ∈ xs) l (stab ans (xs.drop ((xs.length + 1) / 2)) (stab ans (xs.take ((xs.length + 1) / 2)) l).2).2 :=
        (i1.mono fun z h => ⟨List.mem_of_mem_take h.1, List.mem_of_mem_take h.2⟩).trans (i2.mono fun z h => ⟨List.mem_of_mem_drop h.1, List.mem_of_mem_drop h.2⟩)
      obtain ⟨x, ex⟩ : ∃ x, (stab ans (xs.take ((xs.length + 1) / 2)) l).1.getLast? = some x := by
        rw [List.getLast?_eq_getElem?]
        exact ⟨_, List.getElem?_eq_getElem (by omega)⟩
      obtain ⟨y, ey⟩ : ∃ y, (stab ans (xs.drop ((xs.length + 1) / 2)) (stab ans (xs.take ((xs.length + 1) / 2)) l).2).1.head? = some y := by
        rw [List.head?_eq_getElem?]
        exact ⟨_, List.getElem?_eq_getElem (by omega)⟩
      have g3 := g12.trans (Grew.one (z := (x, y)) ⟨m1 x (List.mem_of_getLast? ex), m2 y (by rw [List.head?_eq_getElem?] at ey; exact List.mem_of_getElem? ey)⟩)
      rw [stab_step ans l h2 rfl rfl ex ey]
      split
      · exact g3
      · exact g3.trans ((mrg_grew ans _ _ _).mono fun z h => ⟨m1 _ h.1, m2 _ h.2⟩)
end
end Mir
namespace Mir
section
variable {α β : Type}
theorem srt_of_keys {key : α → Int} {xs ys : List α} (h : Srt key xs) (e : xs.map key = ys.map key) : Srt key ys := by
  have h1 : (xs.map key).Pairwise (· ≤ ·) := List.pairwise_map.mpr h
  rw [e] at h1
  exact List.pairwise_map.mp h1
theorem srt_of_map {c : α → β} {k : β → Int} {xs ys : List α} (h : Srt (fun x => k (c x)) xs) (e : xs.map c = ys.map c) : Srt (fun x => k (c x)) ys := by
  refine srt_of_keys h ?_
  have e2 := congrArg (List.map k) e
  rw [List.map_map, List.map_map] at e2
  exact e2
end
end Mir
namespace Mir
section
variable {α : Type}
theorem Srt.congr {k1 k2 : α → Int} {xs : List α} (h : Srt k1 xs) (e : ∀ x ∈ xs, k1 x = k2 x) : Srt k2 xs := by
  refine srt_of_keys (key := k2) (xs := xs) ?_ rfl
  have h1 : (xs.map k1).Pairwise (· ≤ ·) := List.pairwise_map.mpr h
  rw [List.map_congr_left e] at h1
  exact List.pairwise_map.mp h1
end
end Mir

/-! maps: trees that are kept even; over any answers -/
namespace Mir
inductive Tr (α : Type) where
  | lf
  | nd (k h : α) (l r : Tr α)
section
variable {α : Type}
def lev : Tr α → Nat
  | .lf => 0
  | .nd _ _ l r => 1 + max (lev l) (lev r)
def cnt : Tr α → Nat
  | .lf => 0
  | .nd _ _ l r => 1 + cnt l + cnt r
def toL : Tr α → List (α × α)
  | .lf => []
  | .nd k h l r => toL l ++ (k, h) :: toL r
theorem cnt_len : ∀ t : Tr α, cnt t = (toL t).length
  | .lf => rfl
  | .nd k h l r => by
    rw [cnt, toL, List.length_append, List.length_cons, cnt_len l, cnt_len r]
    omega
def lean : Tr α → Int
  | .lf => 0
  | .nd _ _ l r => (lev l : Int) - (lev r : Int)
def rup : Tr α → Tr α
  | .nd k h (.nd k1 h1 l1 r1) r => .nd k1 h1 l1 (.nd k h r1 r)
  | t => t
def lup : Tr α → Tr α
  | .nd k h l (.nd k1 h1 l1 r1) => .nd k1 h1 (.nd k h l l1) r1
  | t => t
def evn (k h : α) (l r : Tr α) : Tr α :=
  if 1 < (lev l : Int) - (lev r : Int) then rup (.nd k h (if lean l < 0 then lup l else l) r)
  else if (lev l : Int) - (lev r : Int) < -1 then lup (.nd k h l (if 0 < lean r then rup r else r))
  else .nd k h l r
theorem rup_toL : ∀ t : Tr α, toL (rup t) = toL t
  | .lf => rfl
  | .nd k h .lf r => rfl
  | .nd k h (.nd k1 h1 l1 r1) r => by simp [rup, toL]
theorem lup_toL : ∀ t : Tr α, toL (lup t) = toL t
  | .lf => rfl
  | .nd k h .lf .lf => rfl
  | .nd k h (.nd _ _ _ _) .lf => rfl
  | .nd k h l (.nd k1 h1 l1 r1) => by simp [lup, toL]
theorem evn_toL (k h : α) (l r : Tr α) : toL (evn k h l r) = toL l ++ (k, h) :: toL r := by
  unfold evn
  split
  · rw [rup_toL, toL]
    split
    · rw [lup_toL]
    · rfl
  · split
    · rw [lup_toL, toL]
      split
      · rw [rup_toL]
      · rfl
    · rfl
/-- each node's sides differ by one at most -/
def Bal : Tr α → Prop
  | .lf => True
  | .nd _ _ l r => lev l ≤ lev r + 1 ∧ lev r ≤ lev l + 1 ∧ Bal l ∧ Bal r
theorem evn_bal (k h : α) {l r : Tr α} (bl : Bal l) (br : Bal r) (g1 : lev l ≤ lev r + 2) (g2 : lev r ≤ lev l + 2) :
    Bal (evn k h l r) ∧ max (lev l) (lev r) ≤ lev (evn k h l r) ∧ lev (evn k h l r) ≤ 1 + max (lev l) (lev r) ∧ (lev l ≤ lev r + 1 → lev r ≤ lev l + 1 → lev (evn k h l r) = 1 + max (lev l) (lev r)) := by
  unfold evn
  by_cases c1 : 1 < (lev l : Int) - (lev r : Int)
  · rw [if_pos c1]
    have e1 : lev l = lev r + 2 := by omega
    cases l with
    | lf => simp [lev] at e1
    | nd k1 h1 l1 r1 =>
      have e2 : 1 + max (lev l1) (lev r1) = lev r + 2 := e1
      obtain ⟨b1, b2, b3, b4⟩ := bl
      by_cases c2 : lean (Tr.nd k1 h1 l1 r1) < 0
      · rw [if_pos c2]
        have c3 : (lev l1 : Int) - (lev r1 : Int) < 0 := c2
        cases r1 with
        | lf => simp [lev] at c3 e2; omega
        | nd k2 h2 l2 r2 =>
          obtain ⟨d1, d2, d3, d4⟩ := b4
          simp only [lup, rup, Bal, lev] at *
          refine ⟨⟨by omega, by omega, ⟨by omega, by omega, b3, d3⟩, by omega, by omega, d4, br⟩, by omega, by omega, by omega⟩
      · rw [if_neg c2]
        have c3 : ¬ (lev l1 : Int) - (lev r1 : Int) < 0 := c2
        simp only [rup, Bal, lev] at *
        refine ⟨⟨by omega, by omega, b3, by omega, by omega, b4, br⟩, by omega, by omega, by omega⟩
  · rw [if_neg c1]
    by_cases c2 : (lev l : Int) - (lev r : Int) < -1
    · rw [if_pos c2]
      have e1 : lev r = lev l + 2 := by omega
      cases r with
      | lf => simp [lev] at e1
      | nd k1 h1 l1 r1 =>
        have e2 : 1 + max (lev l1) (lev r1) = lev l + 2 := e1
        obtain ⟨b1, b2, b3, b4⟩ := br
        by_cases c3 : 0 < lean (Tr.nd k1 h1 l1 r1)
        · rw [if_pos c3]
          have c4 : 0 < (lev l1 : Int) - (lev r1 : Int) := c3
          cases l1 with
          | lf => simp [lev] at c4 e2; omega
          | nd k2 h2 l2 r2 =>
            obtain ⟨d1, d2, d3, d4⟩ := b3
            simp only [lup, rup, Bal, lev] at *
            refine ⟨⟨by omega, by omega, ⟨by omega, by omega, bl, d3⟩, by omega, by omega, d4, b4⟩, by omega, by omega, by omega⟩
        · rw [if_neg c3]
          have c4 : ¬ 0 < (lev l1 : Int) - (lev r1 : Int) := c3
          simp only [lup, Bal, lev] at *
          refine ⟨⟨by omega, by omega, ⟨by omega, by omega, bl, b3⟩, b4⟩, by omega, by omega, by omega⟩
    · rw [if_neg c2]
      have e : lev (Tr.nd k h l r) = 1 + max (lev l) (lev r) := rfl
      exact ⟨⟨by omega, by omega, bl, br⟩, by omega, by omega, fun _ _ => rfl⟩
/-- few levels -/
theorem lev_cnt : ∀ t : Tr α, Bal t → 2 ^ lev t ≤ (cnt t + 1) * (cnt t + 1)
  | .lf, _ => by simp [lev, cnt]
  | .nd k h l r, b => by
    obtain ⟨b1, b2, b3, b4⟩ := b
    have h1 := lev_cnt l b3
    have h2 := lev_cnt r b4
    obtain ⟨a, ea⟩ : ∃ a, a = cnt l + 1 := ⟨_, rfl⟩
    obtain ⟨c, ec⟩ : ∃ c, c = cnt r + 1 := ⟨_, rfl⟩
    rw [← ea] at h1
    rw [← ec] at h2
    have e : cnt (Tr.nd k h l r) + 1 = a + c := by rw [cnt]; omega
    rw [e, lev]
    have key : ∀ (x y p q : Nat), p ≤ q + 1 → q ≤ p → 2 ^ p ≤ x * x → 2 ^ q ≤ y * y → 2 ^ (1 + p) ≤ (x + y) * (x + y) := by
      intro x y p q hp hq hx hy
      have e1 : (x + y) * (x + y) = x * x + y * y + 2 * (x * y) := by
        rw [Nat.add_mul, Nat.mul_add, Nat.mul_add, Nat.mul_comm y x]
        omega
      have e2 : (2:Nat) ^ (1 + p) = 2 * 2 ^ p := by rw [Nat.add_comm, Nat.pow_succ]; omega
      have hpq : 2 ^ p ≤ 2 * 2 ^ q := by
        have : (2:Nat) ^ p ≤ 2 ^ (q + 1) := Nat.pow_le_pow_right (by decide) hp
        rw [Nat.pow_succ] at this
        omega
      -- xy ≥ half of min
      have e3 : 2 ^ q ≤ x * y := by
        have hxx : 2 ^ q ≤ x * x := Nat.le_trans (Nat.pow_le_pow_right (by decide) hq) hx
        by_cases hxy : x ≤ y
        · exact Nat.le_trans hxx (Nat.mul_le_mul_left x hxy)
        · exact Nat.le_trans hy (Nat.mul_le_mul_right y (by omega))
      rw [e1, e2]
      omega
    by_cases hlr : lev r ≤ lev l
    · rw [Nat.max_eq_left hlr]
      exact key a c (lev l) (lev r) b1 hlr h1 h2
    · rw [Nat.max_eq_right (by omega), Nat.add_comm a c]
      exact key c a (lev r) (lev l) b2 (by omega) h2 h1
theorem lev_clog {t : Tr α} (b : Bal t) : lev t ≤ 2 * clog (cnt t + 1) := by
  have h := lev_cnt t b
  have h2 := le_clog (cnt t + 1)
  have h3 : 2 ^ lev t ≤ 2 ^ (2 * clog (cnt t + 1)) := by
    refine Nat.le_trans h (Nat.le_trans (Nat.mul_le_mul h2 h2) ?_)
    rw [← Nat.pow_add]
    exact Nat.pow_le_pow_right (by decide) (by omega)
  exact (Nat.pow_le_pow_iff_right (by decide)).mp h3
/-! ### put -/
abbrev AnsT (α : Type) := List (α × α) → α → α → Int
def wk (ans : AnsT α) : Tr α → α → α → List (α × α) → Tr α × Bool × List (α × α)
  | .lf, key, held, lg => (.nd key held .lf .lf, true, lg)
  | .nd k h l r, key, held, lg =>
    if ans lg k key = 0 then (.nd k held l r, false, lg ++ [(k, key)])
    else if 0 < ans lg k key then (evn k h (wk ans l key held (lg ++ [(k, key)])).1 r, (wk ans l key held (lg ++ [(k, key)])).2.1, (wk ans l key held (lg ++ [(k, key)])).2.2)
    else (evn k h l (wk ans r key held (lg ++ [(k, key)])).1, (wk ans r key held (lg ++ [(k, key)])).2.1, (wk ans r key held (lg ++ [(k, key)])).2.2)
theorem wk_toL (ans : AnsT α) (key held : α) : ∀ (t : Tr α) (lg : List (α × α)), (∃ A B, toL t = A ++ B ∧ toL (wk ans t key held lg).1 = A ++ (key, held) :: B ∧ (wk ans t key held lg).2.1 = true) ∨ (∃ A k h B, toL t = A ++ (k, h) :: B ∧ toL (wk ans t key held lg).1 = A ++ (k, held) :: B ∧ (wk ans t key held lg).2.1 = false)
  | .lf, lg => .inl ⟨[], [], rfl, rfl, rfl⟩
  | .nd k h l r, lg => by
    unfold wk
    by_cases c1 : ans lg k key = 0
    · rw [if_pos c1]
      exact .inr ⟨toL l, k, h, toL r, rfl, rfl, rfl⟩
    · rw [if_neg c1]
      by_cases c2 : 0 < ans lg k key
      · rw [if_pos c2]
        simp only [evn_toL]
        rcases wk_toL ans key held l (lg ++ [(k, key)]) with ⟨A, B, h1, h2, h3⟩ | ⟨A, k1, hh, B, h1, h2, h3⟩
        · exact .inl ⟨A, B ++ (k, h) :: toL r, by rw [toL, h1, List.append_assoc], by rw [h2]; simp, h3⟩
        · exact .inr ⟨A, k1, hh, B ++ (k, h) :: toL r, by rw [toL, h1]; simp, by rw [h2]; simp, h3⟩
      · rw [if_neg c2]
        simp only [evn_toL]
        rcases wk_toL ans key held r (lg ++ [(k, key)]) with ⟨A, B, h1, h2, h3⟩ | ⟨A, k1, hh, B, h1, h2, h3⟩
        · exact .inl ⟨toL l ++ (k, h) :: A, B, by rw [toL, h1]; simp, by rw [h2]; simp, h3⟩
        · exact .inr ⟨toL l ++ (k, h) :: A, k1, hh, B, by rw [toL, h1]; simp, by rw [h2]; simp, h3⟩
theorem wk_bal (ans : AnsT α) (key held : α) : ∀ (t : Tr α) (lg : List (α × α)), Bal t → Bal (wk ans t key held lg).1 ∧ lev t ≤ lev (wk ans t key held lg).1 ∧ lev (wk ans t key held lg).1 ≤ lev t + 1
  | .lf, lg, _ => by simp [wk, Bal, lev]
  | .nd k h l r, lg, b => by
    obtain ⟨b1, b2, b3, b4⟩ := b
    unfold wk
    by_cases c1 : ans lg k key = 0
    · rw [if_pos c1]
      exact ⟨⟨b1, b2, b3, b4⟩, Nat.le_refl _, Nat.le_succ _⟩
    · rw [if_neg c1]
      by_cases c2 : 0 < ans lg k key
      · rw [if_pos c2]
        obtain ⟨h1, h2, h3⟩ := wk_bal ans key held l (lg ++ [(k, key)]) b3
        obtain ⟨e1, e2, e3, e4⟩ := evn_bal k h h1 b4 (by omega) (by omega)
        refine ⟨e1, ?_, ?_⟩
        · simp only [lev]
          by_cases hc : lev (wk ans l key held (lg ++ [(k, key)])).1 ≤ lev r + 1
          · rw [e4 hc (by omega)]
            omega
          · omega
        · simp only [lev]
          omega
      · rw [if_neg c2]
        obtain ⟨h1, h2, h3⟩ := wk_bal ans key held r (lg ++ [(k, key)]) b4
        obtain ⟨e1, e2, e3, e4⟩ := evn_bal k h b3 h1 (by omega) (by omega)
        refine ⟨e1, ?_, ?_⟩
        · simp only [lev]
          by_cases hc : lev (wk ans r key held (lg ++ [(k, key)])).1 ≤ lev l + 1
          · rw [e4 (by omega) hc]
            omega
          · omega
        · simp only [lev]
          omega
/-- what is asked: keys held, the key; no more than levels -/
theorem wk_log (ans : AnsT α) (key held : α) : ∀ (t : Tr α) (lg : List (α × α)), ∃ m, (wk ans t key held lg).2.2 = lg ++ m ∧ m.length ≤ lev t ∧ ∀ z ∈ m, z.2 = key ∧ z.1 ∈ (toL t).map (·.1)
  | .lf, lg => ⟨[], (List.append_nil _).symm, Nat.le_refl _, fun z hz => by cases hz⟩
  | .nd k h l r, lg => by
    unfold wk
    by_cases c1 : ans lg k key = 0
    · rw [if_pos c1]
      refine ⟨[(k, key)], rfl, by simp only [List.length_singleton, lev]; omega, fun z hz => ?_⟩
      rw [List.mem_singleton.mp hz]
      exact ⟨rfl, by simp [toL]⟩
    · rw [if_neg c1]
      by_cases c2 : 0 < ans lg k key
      · rw [if_pos c2]
        obtain ⟨m, h1, h2, h3⟩ := wk_log ans key held l (lg ++ [(k, key)])
        refine ⟨(k, key) :: m, by show (wk ans l key held (lg ++ [(k, key)])).2.2 = _; rw [h1]; simp, by simp only [List.length_cons, lev]; omega, fun z hz => ?_⟩
        rcases List.mem_cons.mp hz with e | e
        · rw [e]
          exact ⟨rfl, by simp [toL]⟩
        · refine ⟨(h3 z e).1, ?_⟩
          rw [toL, List.map_append]
          exact List.mem_append_left _ (h3 z e).2
      · rw [if_neg c2]
        obtain ⟨m, h1, h2, h3⟩ := wk_log ans key held r (lg ++ [(k, key)])
        refine ⟨(k, key) :: m, by show (wk ans r key held (lg ++ [(k, key)])).2.2 = _; rw [h1]; simp, by simp only [List.length_cons, lev]; omega, fun z hz => ?_⟩
        rcases List.mem_cons.mp hz with e | e
        · rw [e]
          exact ⟨rfl, by simp [toL]⟩
        · refine ⟨(h3 z e).1, ?_⟩
          rw [toL, List.map_append, List.map_cons]
          exact List.mem_append_right _ (List.mem_cons_of_mem _ (h3 z e).2)
/-! ### drop -/
/-- the first node (without its left), and the tree without it -/
def wf : α → α → Tr α → Tr α → (α × α × Tr α) × Tr α
  | k, h, .lf, r => ((k, h, r), r)
  | k, h, .nd k1 h1 l1 r1, r => ((wf k1 h1 l1 r1).1, evn k h (wf k1 h1 l1 r1).2 r)
def jn : Tr α → Tr α → Tr α
  | .lf, r => r
  | .nd k h l r, .lf => .nd k h l r
  | .nd k h l r, .nd k1 h1 l1 r1 => evn (wf k1 h1 l1 r1).1.1 (wf k1 h1 l1 r1).1.2.1 (.nd k h l r) (wf k1 h1 l1 r1).2
def wo (ans : AnsT α) : Tr α → α → List (α × α) → Tr α × Bool × List (α × α)
  | .lf, key, lg => (.lf, false, lg)
  | .nd k h l r, key, lg =>
    if ans lg k key = 0 then (jn l r, true, lg ++ [(k, key)])
    else if 0 < ans lg k key then (evn k h (wo ans l key (lg ++ [(k, key)])).1 r, (wo ans l key (lg ++ [(k, key)])).2.1, (wo ans l key (lg ++ [(k, key)])).2.2)
    else (evn k h l (wo ans r key (lg ++ [(k, key)])).1, (wo ans r key (lg ++ [(k, key)])).2.1, (wo ans r key (lg ++ [(k, key)])).2.2)
theorem wf_toL : ∀ (k h : α) (l r : Tr α), toL l ++ (k, h) :: toL r = ((wf k h l r).1.1, (wf k h l r).1.2.1) :: toL (wf k h l r).2
  | k, h, .lf, r => rfl
  | k, h, .nd k1 h1 l1 r1, r => by
    have ih := wf_toL k1 h1 l1 r1
    rw [toL, ih]
    simp only [wf, evn_toL, List.cons_append]
theorem wf_bal : ∀ (k h : α) (l r : Tr α), Bal (.nd k h l r) → Bal (wf k h l r).2 ∧ lev (wf k h l r).2 ≤ lev (.nd k h l r) ∧ lev (.nd k h l r) ≤ lev (wf k h l r).2 + 1
  | k, h, .lf, r, b => by
    obtain ⟨b1, b2, b3, b4⟩ := b
    simp only [wf, lev] at *
    exact ⟨b4, by omega, by omega⟩
  | k, h, .nd k1 h1 l1 r1, r, b => by
    obtain ⟨b1, b2, b3, b4⟩ := b
    obtain ⟨i1, i2, i3⟩ := wf_bal k1 h1 l1 r1 b3
    have el : lev (Tr.nd k h (.nd k1 h1 l1 r1) r) = 1 + max (lev (Tr.nd k1 h1 l1 r1)) (lev r) := rfl
    obtain ⟨e1, e2, e3, e4⟩ := evn_bal k h i1 b4 (by omega) (by omega)
    simp only [wf]
    refine ⟨e1, by omega, ?_⟩
    by_cases hc : lev r ≤ lev (wf k1 h1 l1 r1).2 + 1
    · rw [e4 (by omega) hc]
      omega
    · omega
theorem jn_toL : ∀ (l r : Tr α), toL (jn l r) = toL l ++ toL r
  | .lf, r => rfl
  | .nd k h l r, .lf => by simp [jn, toL]
  | .nd k h l r, .nd k1 h1 l1 r1 => by
    simp only [jn, evn_toL]
    rw [toL]
    rw [show toL (Tr.nd k1 h1 l1 r1) = ((wf k1 h1 l1 r1).1.1, (wf k1 h1 l1 r1).1.2.1) :: toL (wf k1 h1 l1 r1).2 from wf_toL k1 h1 l1 r1]
theorem jn_bal : ∀ (l r : Tr α), Bal l → Bal r → lev l ≤ lev r + 1 → lev r ≤ lev l + 1 → Bal (jn l r) ∧ max (lev l) (lev r) ≤ lev (jn l r) ∧ lev (jn l r) ≤ 1 + max (lev l) (lev r)
  | .lf, r, _, b, _, _ => ⟨b, by simp [jn, lev], by show lev r ≤ 1 + max 0 (lev r); omega⟩
  | .nd k h l r, .lf, b, _, _, _ => ⟨b, by simp [jn, lev], by simp [jn, lev]⟩
  | .nd k h l r, .nd k1 h1 l1 r1, b, b', c1, c2 => by
    obtain ⟨i1, i2, i3⟩ := wf_bal k1 h1 l1 r1 b'
    obtain ⟨e1, e2, e3, e4⟩ := evn_bal (wf k1 h1 l1 r1).1.1 (wf k1 h1 l1 r1).1.2.1 b i1 (by omega) (by omega)
    simp only [jn]
    refine ⟨e1, ?_, by omega⟩
    by_cases hc : lev (Tr.nd k h l r) ≤ lev (wf k1 h1 l1 r1).2 + 1
    · rw [e4 hc (by omega)]
      omega
    · omega
theorem wo_toL (ans : AnsT α) (key : α) : ∀ (t : Tr α) (lg : List (α × α)), (toL (wo ans t key lg).1 = toL t ∧ (wo ans t key lg).2.1 = false) ∨ (∃ A x B, toL t = A ++ x :: B ∧ toL (wo ans t key lg).1 = A ++ B ∧ (wo ans t key lg).2.1 = true)
  | .lf, lg => .inl ⟨rfl, rfl⟩
  | .nd k h l r, lg => by
    unfold wo
    by_cases c1 : ans lg k key = 0
    · rw [if_pos c1]
      exact .inr ⟨toL l, (k, h), toL r, rfl, jn_toL l r, rfl⟩
    · rw [if_neg c1]
      by_cases c2 : 0 < ans lg k key
      · rw [if_pos c2]
        simp only [evn_toL]
        rcases wo_toL ans key l (lg ++ [(k, key)]) with ⟨h1, h2⟩ | ⟨A, x, B, h1, h2, h3⟩
        · exact .inl ⟨by rw [h1, toL], h2⟩
        · exact .inr ⟨A, x, B ++ (k, h) :: toL r, by rw [toL, h1]; simp, by rw [h2]; simp, h3⟩
      · rw [if_neg c2]
        simp only [evn_toL]
        rcases wo_toL ans key r (lg ++ [(k, key)]) with ⟨h1, h2⟩ | ⟨A, x, B, h1, h2, h3⟩
        · exact .inl ⟨by rw [h1, toL], h2⟩
        · exact .inr ⟨toL l ++ (k, h) :: A, x, B, by rw [toL, h1]; simp, by rw [h2]; simp, h3⟩
theorem wo_bal (ans : AnsT α) (key : α) : ∀ (t : Tr α) (lg : List (α × α)), Bal t → Bal (wo ans t key lg).1 ∧ lev (wo ans t key lg).1 ≤ lev t ∧ lev t ≤ lev (wo ans t key lg).1 + 1
  | .lf, lg, _ => by simp [wo, Bal, lev]
  | .nd k h l r, lg, b => by
    obtain ⟨b1, b2, b3, b4⟩ := b
    unfold wo
    by_cases c1 : ans lg k key = 0
    · rw [if_pos c1]
      obtain ⟨e1, e2, e3⟩ := jn_bal l r b3 b4 b1 b2
      refine ⟨e1, ?_, ?_⟩
      · simp only [lev]
        omega
      · simp only [lev]
        omega
    · rw [if_neg c1]
      by_cases c2 : 0 < ans lg k key
      · rw [if_pos c2]
        obtain ⟨h1, h2, h3⟩ := wo_bal ans key l (lg ++ [(k, key)]) b3
        obtain ⟨e1, e2, e3, e4⟩ := evn_bal k h h1 b4 (by omega) (by omega)
        refine ⟨e1, by simp only [lev]; omega, ?_⟩
        simp only [lev]
        by_cases hc : lev r ≤ lev (wo ans l key (lg ++ [(k, key)])).1 + 1
        · rw [e4 (by omega) hc]
          omega
        · omega
      · rw [if_neg c2]
        obtain ⟨h1, h2, h3⟩ := wo_bal ans key r (lg ++ [(k, key)]) b4
        obtain ⟨e1, e2, e3, e4⟩ := evn_bal k h b3 h1 (by omega) (by omega)
        refine ⟨e1, by simp only [lev]; omega, ?_⟩
        simp only [lev]
        by_cases hc : lev l ≤ lev (wo ans r key (lg ++ [(k, key)])).1 + 1
        · rw [e4 hc (by omega)]
          omega
        · omega
theorem wo_log (ans : AnsT α) (key : α) : ∀ (t : Tr α) (lg : List (α × α)), ∃ m, (wo ans t key lg).2.2 = lg ++ m ∧ m.length ≤ lev t ∧ ∀ z ∈ m, z.2 = key ∧ z.1 ∈ (toL t).map (·.1)
  | .lf, lg => ⟨[], (List.append_nil _).symm, Nat.le_refl _, fun z hz => by cases hz⟩
  | .nd k h l r, lg => by
    unfold wo
    by_cases c1 : ans lg k key = 0
    · rw [if_pos c1]
      refine ⟨[(k, key)], rfl, by simp only [List.length_singleton, lev]; omega, fun z hz => ?_⟩
      rw [List.mem_singleton.mp hz]
      exact ⟨rfl, by simp [toL]⟩
    · rw [if_neg c1]
      by_cases c2 : 0 < ans lg k key
      · rw [if_pos c2]
        obtain ⟨m, h1, h2, h3⟩ := wo_log ans key l (lg ++ [(k, key)])
        refine ⟨(k, key) :: m, by show (wo ans l key (lg ++ [(k, key)])).2.2 = _; rw [h1]; simp, by simp only [List.length_cons, lev]; omega, fun z hz => ?_⟩
        rcases List.mem_cons.mp hz with e | e
        · rw [e]
          exact ⟨rfl, by simp [toL]⟩
        · refine ⟨(h3 z e).1, ?_⟩
          rw [toL, List.map_append]
          exact List.mem_append_left _ (h3 z e).2
      · rw [if_neg c2]
        obtain ⟨m, h1, h2, h3⟩ := wo_log ans key r (lg ++ [(k, key)])
        refine ⟨(k, key) :: m, by show (wo ans r key (lg ++ [(k, key)])).2.2 = _; rw [h1]; simp, by simp only [List.length_cons, lev]; omega, fun z hz => ?_⟩
        rcases List.mem_cons.mp hz with e | e
        · rw [e]
          exact ⟨rfl, by simp [toL]⟩
        · refine ⟨(h3 z e).1, ?_⟩
          rw [toL, List.map_append, List.map_cons]
          exact List.mem_append_right _ (List.mem_cons_of_mem _ (h3 z e).2)
/-! ### find -/
/-- the node found, how many were passed -/
def fnd (ans : AnsT α) : Tr α → α → Nat → List (α × α) → Option (α × α) × Nat × List (α × α)
  | .lf, key, p, lg => (none, p, lg)
  | .nd k h l r, key, p, lg =>
    if ans lg k key = 0 then (some (k, h), p + cnt l, lg ++ [(k, key)])
    else if 0 < ans lg k key then fnd ans l key p (lg ++ [(k, key)])
    else fnd ans r key (p + cnt l + 1) (lg ++ [(k, key)])
theorem fnd_log (ans : AnsT α) (key : α) : ∀ (t : Tr α) (p : Nat) (lg : List (α × α)), ∃ m, (fnd ans t key p lg).2.2 = lg ++ m ∧ m.length ≤ lev t ∧ ∀ z ∈ m, z.2 = key ∧ z.1 ∈ (toL t).map (·.1)
  | .lf, p, lg => ⟨[], (List.append_nil _).symm, Nat.le_refl _, fun z hz => by cases hz⟩
  | .nd k h l r, p, lg => by
    unfold fnd
    by_cases c1 : ans lg k key = 0
    · rw [if_pos c1]
      refine ⟨[(k, key)], rfl, by simp only [List.length_singleton, lev]; omega, fun z hz => ?_⟩
      rw [List.mem_singleton.mp hz]
      exact ⟨rfl, by simp [toL]⟩
    · rw [if_neg c1]
      by_cases c2 : 0 < ans lg k key
      · rw [if_pos c2]
        obtain ⟨m, h1, h2, h3⟩ := fnd_log ans key l p (lg ++ [(k, key)])
        refine ⟨(k, key) :: m, by rw [h1]; simp, by simp only [List.length_cons, lev]; omega, fun z hz => ?_⟩
        rcases List.mem_cons.mp hz with e | e
        · rw [e]
          exact ⟨rfl, by simp [toL]⟩
        · refine ⟨(h3 z e).1, ?_⟩
          rw [toL, List.map_append]
          exact List.mem_append_left _ (h3 z e).2
      · rw [if_neg c2]
        obtain ⟨m, h1, h2, h3⟩ := fnd_log ans key r (p + cnt l + 1) (lg ++ [(k, key)])
        refine ⟨(k, key) :: m, by rw [h1]; simp, by simp only [List.length_cons, lev]; omega, fun z hz => ?_⟩
        rcases List.mem_cons.mp hz with e | e
        · rw [e]
          exact ⟨rfl, by simp [toL]⟩
        · refine ⟨(h3 z e).1, ?_⟩
          rw [toL, List.map_append, List.map_cons]
          exact List.mem_append_right _ (List.mem_cons_of_mem _ (h3 z e).2)
/-! ### at -/
theorem toL_at (k h : α) (l r : Tr α) (i : Nat) : (toL (.nd k h l r))[i]? = if i < cnt l then (toL l)[i]? else if i = cnt l then some (k, h) else (toL r)[i - cnt l - 1]? := by
  rw [toL, cnt_len l]
  by_cases h1 : i < (toL l).length
  · rw [if_pos h1, List.getElem?_append_left h1]
  · rw [if_neg h1, List.getElem?_append_right (by omega)]
    by_cases h2 : i = (toL l).length
    · rw [if_pos h2, h2, Nat.sub_self]
      rfl
    · rw [if_neg h2, show i - (toL l).length = (i - (toL l).length - 1) + 1 by omega, List.getElem?_cons_succ]
      congr 1
end
end Mir
namespace Mir
section
variable {α : Type}
theorem wk_mem (ans : AnsT α) (key held : α) (t : Tr α) (lg : List (α × α)) : ∀ z ∈ toL (wk ans t key held lg).1, z ∈ toL t ∨ (z.2 = held ∧ (z.1 = key ∨ ∃ h, (z.1, h) ∈ toL t)) := by
  intro z hz
  rcases wk_toL ans key held t lg with ⟨A, B, h1, h2, _⟩ | ⟨A, k, h, B, h1, h2, _⟩
  · rw [h2] at hz
    rw [h1]
    rcases List.mem_append.mp hz with q | q
    · exact .inl (List.mem_append_left _ q)
    · rcases List.mem_cons.mp q with q | q
      · rw [q]
        exact .inr ⟨rfl, .inl rfl⟩
      · exact .inl (List.mem_append_right _ q)
  · rw [h2] at hz
    rw [h1]
    rcases List.mem_append.mp hz with q | q
    · exact .inl (List.mem_append_left _ q)
    · rcases List.mem_cons.mp q with q | q
      · rw [q]
        exact .inr ⟨rfl, .inr ⟨h, List.mem_append_right _ List.mem_cons_self⟩⟩
      · exact .inl (List.mem_append_right _ (List.mem_cons_of_mem _ q))
theorem wk_cnt (ans : AnsT α) (key held : α) (t : Tr α) (lg : List (α × α)) : cnt (wk ans t key held lg).1 = cnt t + (if (wk ans t key held lg).2.1 = true then 1 else 0) := by
  rw [cnt_len, cnt_len]
  rcases wk_toL ans key held t lg with ⟨A, B, h1, h2, h3⟩ | ⟨A, k, h, B, h1, h2, h3⟩
  · rw [h1, h2, h3, List.length_append, List.length_append, List.length_cons, if_pos rfl]
    omega
  · rw [h1, h2, h3, List.length_append, List.length_append, List.length_cons, List.length_cons, if_neg Bool.false_ne_true]
    omega
theorem wo_mem (ans : AnsT α) (key : α) (t : Tr α) (lg : List (α × α)) : ∀ z ∈ toL (wo ans t key lg).1, z ∈ toL t := by
  intro z hz
  rcases wo_toL ans key t lg with ⟨h1, _⟩ | ⟨A, x, B, h1, h2, _⟩
  · rw [← h1]
    exact hz
  · rw [h2] at hz
    rw [h1]
    rcases List.mem_append.mp hz with q | q
    · exact List.mem_append_left _ q
    · exact List.mem_append_right _ (List.mem_cons_of_mem _ q)
theorem wo_cnt (ans : AnsT α) (key : α) (t : Tr α) (lg : List (α × α)) : cnt (wo ans t key lg).1 + (if (wo ans t key lg).2.1 = true then 1 else 0) = cnt t := by
  rw [cnt_len, cnt_len]
  rcases wo_toL ans key t lg with ⟨h1, h2⟩ | ⟨A, x, B, h1, h2, h3⟩
  · rw [h1, h2, if_neg Bool.false_ne_true]
    rfl
  · rw [h1, h2, h3, List.length_append, List.length_append, List.length_cons, if_pos rfl]
    omega
theorem lev12 {t : Tr α} (b : Bal t) (h : cnt t ≤ 60) : lev t ≤ 12 := by
  have h1 := lev_clog b
  have h2 : clog (cnt t + 1) ≤ 6 := clog_le.mpr (by omega)
  omega
theorem wk_asks (ans : AnsT α) (key held : α) (t : Tr α) (lg : List (α × α)) (h : toL t ≠ []) : lg.length < (wk ans t key held lg).2.2.length := by
  cases t with
  | lf => exact absurd rfl h
  | nd k g l r =>
    unfold wk
    split
    · simp
    · split
      · obtain ⟨m, h1, _⟩ := wk_log ans key held l (lg ++ [(k, key)])
        show _ < (wk ans l key held (lg ++ [(k, key)])).2.2.length
        rw [h1]
        simp
      · obtain ⟨m, h1, _⟩ := wk_log ans key held r (lg ++ [(k, key)])
        show _ < (wk ans r key held (lg ++ [(k, key)])).2.2.length
        rw [h1]
        simp
theorem wo_asks (ans : AnsT α) (key : α) (t : Tr α) (lg : List (α × α)) (h : toL t ≠ []) : lg.length < (wo ans t key lg).2.2.length := by
  cases t with
  | lf => exact absurd rfl h
  | nd k g l r =>
    unfold wo
    split
    · simp
    · split
      · obtain ⟨m, h1, _⟩ := wo_log ans key l (lg ++ [(k, key)])
        show _ < (wo ans l key (lg ++ [(k, key)])).2.2.length
        rw [h1]
        simp
      · obtain ⟨m, h1, _⟩ := wo_log ans key r (lg ++ [(k, key)])
        show _ < (wo ans r key (lg ++ [(k, key)])).2.2.length
        rw [h1]
        simp
end
end Mir

/-! classes: methods and __init__ by name, attributes as targets; nodes and trees in the heap -/
namespace Ord
open PySem PySem.Spec PyProof.Rows L2 LamX
open Mir (Tr)
/-! ### attributes as targets -/
def gFld (K : PySem.W.Frag) (to : TE) (f : Str) : TG := fun v σ H Q => to σ H fun x H1 => ∃ a C dx fs, x = .ref a ∧ H1 a = some (.ins C dx fs) ∧ Cls K C ∧ NoAttr K C f ∧ fs.length < 1000 ∧ Q σ (upd H1 a (.ins C dx (putF f v fs)))
theorem pg_attr {X : Cx} {o : Expr} {f : Str} {pos : Pos} {to : TE} (ho : PE X o to)
    (ha : ∀ v, assign (.Attribute o f pos) X.env v = (do
      let ov ← holding [v] (eval o X.env)
      standAt pos.atName
      holding [v, ov] (setAttr ov f v)
      release [v, ov] []) := by intro _; rfl) : PG X (.Attribute o f pos) (gFld X.K to f) := by
  refine ⟨fun pins s σ H v u Q I r h => ?_⟩
  rw [ha]
  refine wpAny_bind (wpAny_holding (thn (ho.run pins s σ H _ I h) fun ov s1 ⟨x, H1, I1, r1, q1⟩ => ?_))
  obtain ⟨a, C, dx, fs, ex, ea, c, n, l, q⟩ := q1
  subst ex
  obtain rfl : ov = Value.ref a := r1
  refine wpAny_bind (wpAny_standAt (wpAny_bind (wpAny_holding (setattr_ok I1 ea c n l r fun s3 I3 => ?_))))
  exact wpAny_release ⟨σ, _, I3, q⟩
/-! ### methods by name -/
structure Dm (K : PySem.W.Frag) (C : Addr) (m qual : Str) (st : Stmt) (ps : List Str) where
  f : Addr
  fd : FuncData
  F : Fun K m qual st f fd
  me : Meth K C m f
  b : Binds K fd ps []
structure Di (K : PySem.W.Frag) (mg : Str → Option Value) (C : Addr) (x qual : Str) (st : Stmt) (ps : List Str) where
  f : Addr
  fd : FuncData
  F : Fun K "__init__" qual st f fd
  mkr : Mk K C f
  b : Binds K fd ps []
  cl : Cls K C
  g : mg x = some (.ref C)
section
variable {X : Cx} {k : Nat} {C : Addr} {m qual x : Str} {st : Stmt} {ps : List Str} {sp : Sp} {p pos apos : Pos} {e o : Expr} {es : List Expr} {t : TA} {ta : TE}
theorem pe_mk {d : Di X.K X.mg C x qual st ps} (G : FnOk X.prog X.w X.K X.mg X.base CX0 k d.f d.fd ps sp) (hr : Room (k + 1) X.A) (ha : PA X (e :: es) t) (hg : Gl X x := by rfl) (hdb : (x == ("__debug__" : Str)) = false := by decide)
    (he : starEach (e :: es) X.env = (false, eval e X.env) :: starEach es X.env := by rfl) (hpl : (backTo pos (starEach es X.env)).any (·.1) = false := by rfl) : PE X (.Call (.Name x p) (e :: es) [] pos) (tMake C sp [] E0 t) :=
  pe_make d.mkr G hr hg d.g d.b .nil pass0 ha hdb he hpl
theorem pe_md {pl : Sem Bool} {d : Dm X.K C m qual st ps} (cl : Cls X.K C) (G : FnOk X.prog X.w X.K X.mg X.base CX0 k d.f d.fd ps sp) (hr : Room k X.A) (ho : PE X o ta) (ha : PA X (e :: es) t)
    (hst : starEach (e :: es) X.env = (false, eval e X.env) :: starEach es X.env := by rfl) (hpl : (backTo pos (starEach es X.env)).any (·.1) = false := by rfl)
    (ht : eval (.Call (.Attribute o m apos) (e :: es) [] pos) X.env = (do
      let ov ← eval o X.env
      standAt apos.atName
      let (f, first) ← holding [ov] (getMethod ov m pl)
      callWith pos f first (backTo pos (starEach (e :: es) X.env)) (backToKw pos (keywordEach [] X.env))) := by rfl) : PE X (.Call (.Attribute o m apos) (e :: es) [] pos) (tMeth C m sp [] E0 ta t) :=
  pe_meth ho cl d.me G hr d.b .nil pass0 ha hst hpl ht
theorem pe_md0 {pl : Sem Bool} {d : Dm X.K C m qual st ps} (cl : Cls X.K C) (G : FnOk X.prog X.w X.K X.mg X.base CX0 k d.f d.fd ps sp) (hr : Room k X.A) (ho : PE X o ta)
    (ht : eval (.Call (.Attribute o m apos) [] [] pos) X.env = (do
      let ov ← eval o X.env
      standAt apos.atName
      let (f, first) ← holding [ov] (getMethod ov m pl)
      callWith pos f first (backTo pos (starEach [] X.env)) (backToKw pos (keywordEach [] X.env))) := by rfl) : PE X (.Call (.Attribute o m apos) [] [] pos) (tMeth C m sp [] E0 ta tNil) :=
  pe_meth0 ho cl d.me G hr d.b .nil pass0 ht
theorem pe_mdLent {pl : Sem Bool} {d : Dm X.K C m qual st ps} (cl : Cls X.K C) (G : FnOk X.prog X.w X.K X.mg X.base CX0 k d.f d.fd ps sp) (hr : Room k X.A) (un : UniqC X.env.cells) (hfn : ∀ x, X.fn x = true) (ho : PE X o ta) (ha : PA X (e :: es) t)
    (hst : starEach (e :: es) X.env = (false, eval e X.env) :: starEach es X.env := by rfl) (hpl : (backTo pos (starEach es X.env)).any (·.1) = false := by rfl)
    (ht : eval (.Call (.Attribute o m apos) (e :: es) [] pos) X.env = (do
      let ov ← eval o X.env
      standAt apos.atName
      let (f, first) ← holding [ov] (getMethod ov m pl)
      callWith pos f first (backTo pos (starEach (e :: es) X.env)) (backToKw pos (keywordEach [] X.env))) := by rfl) : PE X (.Call (.Attribute o m apos) (e :: es) [] pos) (tMethLent X C m sp ta t) :=
  pe_methLent ho cl d.me G hr d.b un hfn (fun _ _ _ _ z => z) ha hst hpl ht
end
/-! ### nodes -/
structure NodeT (K : PySem.W.Frag) (C : Addr) : Prop where
  cl : Cls K C
  nk : NoAttr K C "key"
  nh : NoAttr K C "held"
  nl : NoAttr K C "left"
  nr : NoAttr K C "right"
  nv : NoAttr K C "level"
  nm : NoAttr K C "many"
structure MapT (K : PySem.W.Frag) (C : Addr) : Prop where
  cl : Cls K C
  no : NoAttr K C "order"
  nr : NoAttr K C "root"
def nfl (k h l r : V) (n m : Nat) : List (Str × V) := [("key", k), ("held", h), ("left", l), ("right", r), ("level", .int n), ("many", .int m)]
theorem ne_kh : ¬ ("key" : Str) = "held" := by decide +kernel
theorem ne_kl : ¬ ("key" : Str) = "left" := by decide +kernel
theorem ne_kr : ¬ ("key" : Str) = "right" := by decide +kernel
theorem ne_kv : ¬ ("key" : Str) = "level" := by decide +kernel
theorem ne_km : ¬ ("key" : Str) = "many" := by decide +kernel
theorem ne_hl : ¬ ("held" : Str) = "left" := by decide +kernel
theorem ne_hr : ¬ ("held" : Str) = "right" := by decide +kernel
theorem ne_hv : ¬ ("held" : Str) = "level" := by decide +kernel
theorem ne_hm : ¬ ("held" : Str) = "many" := by decide +kernel
theorem ne_lr : ¬ ("left" : Str) = "right" := by decide +kernel
theorem ne_lv : ¬ ("left" : Str) = "level" := by decide +kernel
theorem ne_lm : ¬ ("left" : Str) = "many" := by decide +kernel
theorem ne_rv : ¬ ("right" : Str) = "level" := by decide +kernel
theorem ne_rm : ¬ ("right" : Str) = "many" := by decide +kernel
theorem ne_vm : ¬ ("level" : Str) = "many" := by decide +kernel
theorem nfl_put (k h l r : V) (n m : Nat) : putF "many" (.int m) (putF "level" (.int n) (putF "right" r (putF "left" l (putF "held" h (putF "key" k []))))) = nfl k h l r n m := by
  simp only [putF, if_neg ne_kh, if_neg ne_kl, if_neg ne_kr, if_neg ne_kv, if_neg ne_km, if_neg ne_hl, if_neg ne_hr, if_neg ne_hv, if_neg ne_hm, if_neg ne_lr, if_neg ne_lv, if_neg ne_lm, if_neg ne_rv, if_neg ne_rm, if_neg ne_vm, nfl]
theorem lk_ne {g f : Str} {v : V} {fs : List (Str × V)} (n : ¬ f = g) : List.lookup g ((f, v) :: fs) = List.lookup g fs := by
  rw [List.lookup_cons]
  have : (g == f) = false := beq_eq_false_iff_ne.mpr fun z => n z.symm
  rw [this]
theorem lk_eq {f : Str} {v : V} {fs : List (Str × V)} : List.lookup f ((f, v) :: fs) = some v := by
  rw [List.lookup_cons]
  simp
section
variable (k h l r : V) (n m : Nat)
theorem nfl_key : (nfl k h l r n m).lookup ("key" : Str) = some k := lk_eq
theorem nfl_held : (nfl k h l r n m).lookup ("held" : Str) = some h := by
  unfold nfl
  rw [lk_ne ne_kh, lk_eq]
theorem nfl_left : (nfl k h l r n m).lookup ("left" : Str) = some l := by
  unfold nfl
  rw [lk_ne ne_kl, lk_ne ne_hl, lk_eq]
theorem nfl_right : (nfl k h l r n m).lookup ("right" : Str) = some r := by
  unfold nfl
  rw [lk_ne ne_kr, lk_ne ne_hr, lk_ne ne_lr, lk_eq]
theorem nfl_level : (nfl k h l r n m).lookup ("level" : Str) = some (.int n) := by
  unfold nfl
  rw [lk_ne ne_kv, lk_ne ne_hv, lk_ne ne_lv, lk_ne ne_rv, lk_eq]
theorem nfl_many : (nfl k h l r n m).lookup ("many" : Str) = some (.int m) := by
  unfold nfl
  rw [lk_ne ne_km, lk_ne ne_hm, lk_ne ne_lm, lk_ne ne_rm, lk_ne ne_vm, lk_eq]
end
/-- what stands in a map -/
def mfl (f : Addr) (r : V) : List (Str × V) := [("order", .ref f), ("root", r)]
theorem ne_or : ¬ ("order" : Str) = "root" := by decide +kernel
theorem mfl_order (f : Addr) (r : V) : (mfl f r).lookup ("order" : Str) = some (.ref f) := lk_eq
theorem mfl_root (f : Addr) (r : V) : (mfl f r).lookup ("root" : Str) = some r := by
  unfold mfl
  rw [lk_ne ne_or, lk_eq]
theorem mfl_put0 (f : Addr) (r : V) : putF "root" r (putF "order" (.ref f) []) = mfl f r := by
  simp only [putF, if_neg ne_or, mfl]
theorem mfl_put (f : Addr) (r r' : V) : putF "root" r' (mfl f r) = mfl f r' := by
  simp only [mfl, putF, if_neg ne_or, if_true]
theorem mfl_no {m : Str} (f : Addr) (r : V) (h1 : ¬ ("order" : Str) = m) (h2 : ¬ ("root" : Str) = m) : (mfl f r).lookup m = none := by
  unfold mfl
  rw [lk_ne h1, lk_ne h2]
  rfl
/-! ### trees -/
def TreeAt (CN q : Addr) (H : Hp) : V → Tr V → Prop
  | v, .lf => v = .non
  | v, .nd k h l r => ∃ (a dx : Addr) (lv rv : V), v = .ref a ∧ a ≠ q ∧ H a = some (.ins CN dx (nfl k h lv rv (Mir.lev (.nd k h l r)) (Mir.cnt (.nd k h l r)))) ∧ TreeAt CN q H lv l ∧ TreeAt CN q H rv r
theorem TreeAt.keep {CN q : Addr} {H H' : Hp} (k : ∀ b o, b ≠ q → H b = some o → H' b = some o) : ∀ {t : Tr V} {v : V}, TreeAt CN q H v t → TreeAt CN q H' v t
  | .lf, v, h => h
  | .nd _ _ l r, v, h => by
    obtain ⟨a, dx, lv, rv, e1, e2, e3, e4, e5⟩ := h
    exact ⟨a, dx, lv, rv, e1, e2, k _ _ e2 e3, e4.keep k, e5.keep k⟩
theorem TreeAt.kb {CN q : Addr} {H H' : Hp} {t : Tr V} {v : V} (h : TreeAt CN q H v t) (k : KB q H H') : TreeAt CN q H' v t := h.keep k.keep
theorem TreeAt.same {CN q : Addr} {H H' : Hp} {t : Tr V} {v : V} (h : TreeAt CN q H v t) (s : Same H H') : TreeAt CN q H' v t := h.keep fun b o _ e => s b o e
theorem non_ref (a : Addr) : decide (V.ref a = V.non) = false := decide_eq_false fun z => by cases z
theorem non_non : decide (V.non = V.non) = true := decide_eq_true rfl
end Ord

set_option pp.deepTerms false
set_option pp.maxSteps 1500
namespace Ord
open PySem PySem.Spec PyProof.Rows L2 LamX
open Mir (Tr)
theorem TreeAt.offk {CN q p : Addr} {H H' : Hp} (hp : ∀ dx k h l r n m, H p ≠ some (.ins CN dx (nfl k h l r n m))) (k : ∀ b o, b ≠ p → H b = some o → H' b = some o) : ∀ {t : Tr V} {v : V}, TreeAt CN q H v t → TreeAt CN q H' v t
  | .lf, v, h => h
  | .nd _ _ l r, v, h => by
    obtain ⟨a, dx, lv, rv, e1, e2, e3, e4, e5⟩ := h
    exact ⟨a, dx, lv, rv, e1, e2, k _ _ (fun z => hp _ _ _ _ _ _ _ (by rw [← z]; exact e3)) e3, e4.offk hp k, e5.offk hp k⟩
section
variable {P : Program} {w : World} {K : PySem.W.Frag} {mg : Str → Option Value} {base : Heap} {CN : Addr}
/-! ### level_of, many_of -/
def N_level_of : List Str := ["node"]
theorem sc_level_of : FnScope ["node"] ["node"] (defScope st_level_of) := ⟨rfl, rfl, rfl, by decide +kernel, rfl, by decide +kernel, by decide +kernel⟩
def spLev (CN : Addr) : Sp := fun vs H Q _ => ∃ (q : Addr) (v : V) (t : Tr V), vs = [v] ∧ TreeAt CN q H v t ∧ Q (.int (Mir.lev t : Nat)) H
theorem ok_level_of (d_level_of : Df K mg "level_of" st_level_of ["node"]) (TN : NodeT K CN) : FnOk P w K mg base CX0 1 d_level_of.f d_level_of.fd ["node"] (spLev CN) := by
  refine d_level_of.F.ok sc_level_of (fun vs H Q E h => ?_) (fun cdv A outer s H vs Q E hr h => ?_)
  · obtain ⟨q, v, t, rfl, _⟩ := h
    rfl
  · obtain ⟨q, v, t, rfl, ht, hQ⟩ := h
    have nd := sc_level_of.nd
    refine ⟨_, (pss_cons (ps_if (pt_cmpR op_isN (pv 0) pe_non (nomark _))
    (pss_one (ps_ret pe_int))
    pss_nil)
  (pss_one (ps_ret (pe_fld (pv 0) rfl)))), ?_⟩
    cases t with
    | lf =>
      obtain rfl : v = .non := ht
      refine ⟨_, rfl, rfl, _, rfl, ?_⟩
      rw [non_non]
      exact iteT hQ
    | nd k h l r =>
      obtain ⟨a, dx, lv, rv, rfl, _, ha, _⟩ := ht
      refine ⟨_, rfl, rfl, _, rfl, ?_⟩
      rw [non_ref]
      exact iteF ⟨_, rfl, a, CN, dx, _, _, rfl, ha, TN.cl, TN.nv, nfl_level _ _ _ _ _ _, hQ⟩
def N_many_of : List Str := ["node"]
theorem sc_many_of : FnScope ["node"] ["node"] (defScope st_many_of) := ⟨rfl, rfl, rfl, by decide +kernel, rfl, by decide +kernel, by decide +kernel⟩
def spMany (CN : Addr) : Sp := fun vs H Q _ => ∃ (q : Addr) (v : V) (t : Tr V), vs = [v] ∧ TreeAt CN q H v t ∧ Q (.int (Mir.cnt t : Nat)) H
theorem ok_many_of (d_many_of : Df K mg "many_of" st_many_of ["node"]) (TN : NodeT K CN) : FnOk P w K mg base CX0 1 d_many_of.f d_many_of.fd ["node"] (spMany CN) := by
  refine d_many_of.F.ok sc_many_of (fun vs H Q E h => ?_) (fun cdv A outer s H vs Q E hr h => ?_)
  · obtain ⟨q, v, t, rfl, _⟩ := h
    rfl
  · obtain ⟨q, v, t, rfl, ht, hQ⟩ := h
    have nd := sc_many_of.nd
    refine ⟨_, (pss_cons (ps_if (pt_cmpR op_isN (pv 0) pe_non (nomark _))
    (pss_one (ps_ret pe_int))
    pss_nil)
  (pss_one (ps_ret (pe_fld (pv 0) rfl)))), ?_⟩
    cases t with
    | lf =>
      obtain rfl : v = .non := ht
      refine ⟨_, rfl, rfl, _, rfl, ?_⟩
      rw [non_non]
      exact iteT hQ
    | nd k h l r =>
      obtain ⟨a, dx, lv, rv, rfl, _, ha, _⟩ := ht
      refine ⟨_, rfl, rfl, _, rfl, ?_⟩
      rw [non_ref]
      exact iteF ⟨_, rfl, a, CN, dx, _, _, rfl, ha, TN.cl, TN.nm, nfl_many _ _ _ _ _ _, hQ⟩
/-! ### Node -/
def N_Node___init__ : List Str := ["self", "key", "held", "left", "right"]
theorem sc_Node___init__ : FnScope ["self", "key", "held", "left", "right"] ["self", "key", "held", "left", "right"] (defScope st_Node___init__) := ⟨rfl, rfl, rfl, by decide +kernel, rfl, by decide +kernel, by decide +kernel⟩
def spNode (CN : Addr) : Sp := fun vs H Q _ => ∃ (q p dx : Addr) (k h lv rv : V) (l r : Tr V), vs = [.ref p, k, h, lv, rv] ∧ H p = some (.ins CN dx []) ∧ TreeAt CN q H lv l ∧ TreeAt CN q H rv r ∧
  ∀ H', (∀ b o, b ≠ p → H b = some o → H' b = some o) → H' p = some (.ins CN dx (nfl k h lv rv (Mir.lev (.nd k h l r)) (Mir.cnt (.nd k h l r)))) → Q .non H'
theorem ok_Node (d_Node : Di K mg CN "Node" "Node.__init__" st_Node___init__ ["self", "key", "held", "left", "right"]) (d_level_of : Df K mg "level_of" st_level_of ["node"]) (d_many_of : Df K mg "many_of" st_many_of ["node"]) (TN : NodeT K CN) (mMax : mg "max" = none) : FnOk P w K mg base CX0 2 d_Node.f d_Node.fd ["self", "key", "held", "left", "right"] (spNode CN) := by
  have G_level_of : FnOk P w K mg base CX0 1 d_level_of.f d_level_of.fd ["node"] (spLev CN) := ok_level_of d_level_of TN
  have G_many_of : FnOk P w K mg base CX0 1 d_many_of.f d_many_of.fd ["node"] (spMany CN) := ok_many_of d_many_of TN
  refine d_Node.F.ok sc_Node___init__ (fun vs H Q E h => ?_) (fun cdv A outer s H vs Q E hr h => ?_)
  · obtain ⟨q, p, dx, k, h, lv, rv, l, r, rfl, _⟩ := h
    rfl
  · obtain ⟨q, p, dx, k, h, lv, rv, l, r, rfl, hp, hl, hr', hQ⟩ := h
    have nd := sc_Node___init__.nd
    refine ⟨_, (pss_cons (ps_fld (pv 0) (pv 1) rfl)
  (pss_cons (ps_fld (pv 0) (pv 2) rfl)
  (pss_cons (ps_fld (pv 0) (pv 3) rfl)
  (pss_cons (ps_fld (pv 0) (pv 4) rfl)
  (pss_cons (ps_fld (pv 0) (pe_op op_addE pe_int (pe_callB (call_max2 rfl) (by rfl) mMax (by decide +kernel) (pa_cons (pe_cd (d := d_level_of) G_level_of (hr.mono (by omega)) (pa_cons (pv 3) pa_nil)) (pa_cons (pe_cd (d := d_level_of) G_level_of (hr.mono (by omega)) (pa_cons (pv 4) pa_nil)) pa_nil)))) rfl)
  (pss_one (ps_fld (pv 0) (pe_op op_addE (pe_op op_addE pe_int (pe_cd (d := d_many_of) G_many_of (hr.mono (by omega)) (pa_cons (pv 3) pa_nil))) (pe_cd (d := d_many_of) G_many_of (hr.mono (by omega)) (pa_cons (pv 4) pa_nil))) rfl))))))), ?_⟩
    have hn : ∀ dx' k h l r n m, H p ≠ some (.ins CN dx' (nfl k h l r n m)) := fun dx' k h l r n m z => by
      rw [hp] at z
      cases z
    refine ⟨_, rfl, _, rfl, p, CN, dx, _, rfl, hp, TN.cl, TN.nk, by decide, ?_⟩
    refine ⟨_, rfl, _, rfl, p, CN, dx, _, rfl, upd_same, TN.cl, TN.nh, by simp only [putF, List.length_cons, List.length_nil]; decide, ?_⟩
    refine ⟨_, rfl, _, rfl, p, CN, dx, _, rfl, upd_same, TN.cl, TN.nl, by simp only [putF, if_neg ne_kh, List.length_cons, List.length_nil]; decide, ?_⟩
    refine ⟨_, rfl, _, rfl, p, CN, dx, _, rfl, upd_same, TN.cl, TN.nr, by simp only [putF, if_neg ne_kh, if_neg ne_kl, if_neg ne_hl, List.length_cons, List.length_nil]; decide, ?_⟩
    obtain ⟨H1, e1⟩ : ∃ H1, H1 = upd (upd (upd (upd H p (.ins CN dx (putF "key" k []))) p (.ins CN dx (putF "held" h (putF "key" k [])))) p (.ins CN dx (putF "left" lv (putF "held" h (putF "key" k []))))) p (.ins CN dx (putF "right" rv (putF "left" lv (putF "held" h (putF "key" k []))))) := ⟨_, rfl⟩
    have hp1 : H1 p = some (.ins CN dx (putF "right" rv (putF "left" lv (putF "held" h (putF "key" k []))))) := by rw [e1]; exact upd_same
    have k1 : ∀ b o, b ≠ p → H b = some o → H1 b = some o := fun b o n e => by
      rw [e1, upd_ne n, upd_ne n, upd_ne n, upd_ne n]
      exact e
    rw [← e1]
    clear e1
    refine ⟨_, rfl, q, lv, l, rfl, hl.offk hn k1, _, rfl, q, rv, r, rfl, hr'.offk hn k1, _, _, rfl, _, _, ((Mir.lev (Tr.nd k h l r) : Nat) : Int), rfl, rfl, ?_, _, rfl, p, CN, dx, _, rfl, hp1, TN.cl, TN.nv, ?_, ?_⟩
    · show ((1 + max (Mir.lev l) (Mir.lev r) : Nat) : Int) = 1 + (if (Mir.lev r : Int) > (Mir.lev l : Int) then (Mir.lev r : Int) else (Mir.lev l : Int))
      split <;> omega
    · simp only [putF, if_neg ne_kh, if_neg ne_kl, if_neg ne_hl, if_neg ne_kr, if_neg ne_hr, if_neg ne_lr, List.length_cons, List.length_nil]
      decide
    obtain ⟨H2, e2⟩ : ∃ H2, H2 = upd H1 p (.ins CN dx (putF "level" (.int ((Mir.lev (Tr.nd k h l r) : Nat) : Int)) (putF "right" rv (putF "left" lv (putF "held" h (putF "key" k [])))))) := ⟨_, rfl⟩
    have hp2 : H2 p = some (.ins CN dx (putF "level" (.int ((Mir.lev (Tr.nd k h l r) : Nat) : Int)) (putF "right" rv (putF "left" lv (putF "held" h (putF "key" k [])))))) := by rw [e2]; exact upd_same
    have k2 : ∀ b o, b ≠ p → H b = some o → H2 b = some o := fun b o n e => by
      rw [e2, upd_ne n]
      exact k1 b o n e
    rw [← e2]
    clear e2
    refine ⟨_, rfl, q, lv, l, rfl, hl.offk hn k2, _, _, ((1 + Mir.cnt l : Nat) : Int), rfl, rfl, (by show ((1 + Mir.cnt l : Nat) : Int) = 1 + (Mir.cnt l : Int); omega), _, rfl, q, rv, r, rfl, hr'.offk hn k2, _, _, ((Mir.cnt (Tr.nd k h l r) : Nat) : Int), rfl, rfl, (by show ((1 + Mir.cnt l + Mir.cnt r : Nat) : Int) = ((1 + Mir.cnt l : Nat) : Int) + (Mir.cnt r : Int); omega), _, rfl, p, CN, dx, _, rfl, hp2, TN.cl, TN.nm, ?_, ?_⟩
    · simp only [putF, if_neg ne_kh, if_neg ne_kl, if_neg ne_hl, if_neg ne_kr, if_neg ne_hr, if_neg ne_lr, if_neg ne_kv, if_neg ne_hv, if_neg ne_lv, if_neg ne_rv, List.length_cons, List.length_nil]
      decide
    refine hQ _ (fun b o n e => by rw [upd_ne n]; exact k2 b o n e) ?_
    rw [nfl_put]
    exact upd_same
/-- a node that is made -/
theorem made_tree {q x dx : Addr} {H1 H2 : Hp} {k h lv rv : V} {l r : Tr V} (nq : H1 q ≠ none) (nx : H1 x = none) (ndx : H1 dx = none) (hl : TreeAt CN q H1 lv l) (hr : TreeAt CN q H1 rv r)
    (kp : ∀ b o, b ≠ x → upd (upd H1 dx (.own x)) x (.ins CN dx []) b = some o → H2 b = some o) (hx : H2 x = some (.ins CN dx (nfl k h lv rv (Mir.lev (.nd k h l r)) (Mir.cnt (.nd k h l r))))) : Same H1 H2 ∧ TreeAt CN q H2 (.ref x) (.nd k h l r) := by
  have s : Same H1 H2 := fun b o e => kp b o (ne_of_none e nx) (by rw [upd_ne (ne_of_none e nx), upd_ne (ne_of_none e ndx)]; exact e)
  exact ⟨s, x, dx, lv, rv, rfl, fun z => nq (by rw [← z]; exact nx), hx, hl.same s, hr.same s⟩
/-- the trees that are handed to Node stand ahead of it -/
theorem TreeAt.ahead {q x dx : Addr} {H1 : Hp} {v : V} {t : Tr V} (h : TreeAt CN q H1 v t) (nx : H1 x = none) (ndx : H1 dx = none) : TreeAt CN q (upd (upd H1 dx (.own x)) x (.ins CN dx [])) v t :=
  h.same fun b o e => by rw [upd_ne (ne_of_none e nx), upd_ne (ne_of_none e ndx)]; exact e
/-! ### lean -/
def N_lean : List Str := ["node"]
theorem sc_lean : FnScope ["node"] ["node"] (defScope st_lean) := ⟨rfl, rfl, rfl, by decide +kernel, rfl, by decide +kernel, by decide +kernel⟩
def spLean (CN : Addr) : Sp := fun vs H Q _ => ∃ (q : Addr) (v k h : V) (l r : Tr V), vs = [v] ∧ TreeAt CN q H v (.nd k h l r) ∧ Q (.int ((Mir.lev l : Int) - (Mir.lev r : Int))) H
theorem ok_lean (d_lean : Df K mg "lean" st_lean ["node"]) (d_level_of : Df K mg "level_of" st_level_of ["node"]) (TN : NodeT K CN) : FnOk P w K mg base CX0 2 d_lean.f d_lean.fd ["node"] (spLean CN) := by
  have G_level_of : FnOk P w K mg base CX0 1 d_level_of.f d_level_of.fd ["node"] (spLev CN) := ok_level_of d_level_of TN
  refine d_lean.F.ok sc_lean (fun vs H Q E h => ?_) (fun cdv A outer s H vs Q E hr h => ?_)
  · obtain ⟨q, v, k, h, l, r, rfl, _⟩ := h
    rfl
  · obtain ⟨q, v, k, h, l, r, rfl, ht, hQ⟩ := h
    have nd := sc_lean.nd
    refine ⟨_, (pss_one (ps_ret (pe_op op_subE (pe_cd (d := d_level_of) G_level_of (hr.mono (by omega)) (pa_cons (pe_fld (pv 0) rfl) pa_nil)) (pe_cd (d := d_level_of) G_level_of (hr.mono (by omega)) (pa_cons (pe_fld (pv 0) rfl) pa_nil))))), ?_⟩
    obtain ⟨a, dx, lv, rv, rfl, _, ha, h1, h2⟩ := ht
    exact ⟨_, rfl, a, CN, dx, _, _, rfl, ha, TN.cl, TN.nl, nfl_left _ _ _ _ _ _, q, lv, l, rfl, h1, _, rfl, a, CN, dx, _, _, rfl, ha, TN.cl, TN.nr, nfl_right _ _ _ _ _ _, q, rv, r, rfl, h2, _, _, _, rfl, rfl, rfl, hQ⟩
/-! ### turned nodes -/
def N_right_up : List Str := ["node", "left"]
theorem sc_right_up : FnScope ["node", "left"] ["node"] (defScope st_right_up) := ⟨rfl, rfl, rfl, by decide +kernel, rfl, by decide +kernel, by decide +kernel⟩
def spRup (CN : Addr) : Sp := fun vs H Q _ => ∃ (q : Addr) (v k h k1 h1 : V) (l1 r1 r : Tr V), vs = [v] ∧ H q ≠ none ∧ TreeAt CN q H v (.nd k h (.nd k1 h1 l1 r1) r) ∧ ∀ H' v', Same H H' → TreeAt CN q H' v' (.nd k1 h1 l1 (.nd k h r1 r)) → Q v' H'
theorem ok_right_up (d_right_up : Df K mg "right_up" st_right_up ["node"]) (d_Node : Di K mg CN "Node" "Node.__init__" st_Node___init__ ["self", "key", "held", "left", "right"]) (d_level_of : Df K mg "level_of" st_level_of ["node"]) (d_many_of : Df K mg "many_of" st_many_of ["node"]) (TN : NodeT K CN) (mMax : mg "max" = none) : FnOk P w K mg base CX0 4 d_right_up.f d_right_up.fd ["node"] (spRup CN) := by
  have G_Node : FnOk P w K mg base CX0 2 d_Node.f d_Node.fd ["self", "key", "held", "left", "right"] (spNode CN) := ok_Node d_Node d_level_of d_many_of TN mMax
  refine d_right_up.F.ok sc_right_up (fun vs H Q E h => ?_) (fun cdv A outer s H vs Q E hr h => ?_)
  · obtain ⟨q, v, k, h, k1, h1, l1, r1, r, rfl, _⟩ := h
    rfl
  · obtain ⟨q, v, k, h, k1, h1, l1, r1, r, rfl, nq, ht, hQ⟩ := h
    have nd := sc_right_up.nd
    refine ⟨_, (pss_cons (ps_set (i := 1) nd rfl (Or.inl rfl) (pe_fld (pv 0) rfl))
  (pss_one (ps_ret (pe_mk (d := d_Node) G_Node (hr.mono (by omega)) (pa_cons (pe_fld (pv 1) rfl) (pa_cons (pe_fld (pv 1) rfl) (pa_cons (pe_fld (pv 1) rfl) (pa_cons (pe_mk (d := d_Node) G_Node (hr.mono (by omega)) (pa_cons (pe_fld (pv 0) rfl) (pa_cons (pe_fld (pv 0) rfl) (pa_cons (pe_fld (pv 1) rfl) (pa_cons (pe_fld (pv 0) rfl) pa_nil))))) pa_nil)))))))), ?_⟩
    obtain ⟨a, dx, lv, rv, rfl, _, ha, ⟨b, dy, lv1, rv1, rfl, _, hb, t1, t2⟩, t3⟩ := ht
    refine ⟨_, rfl, a, CN, dx, _, _, rfl, ha, TN.cl, TN.nl, nfl_left _ _ _ _ _ _, ?_⟩
    refine ⟨_, rfl, b, CN, dy, _, _, rfl, hb, TN.cl, TN.nk, nfl_key _ _ _ _ _ _, _, rfl, b, CN, dy, _, _, rfl, hb, TN.cl, TN.nh, nfl_held _ _ _ _ _ _, _, rfl, b, CN, dy, _, _, rfl, hb, TN.cl, TN.nl, nfl_left _ _ _ _ _ _, ?_⟩
    refine ⟨_, rfl, a, CN, dx, _, _, rfl, ha, TN.cl, TN.nk, nfl_key _ _ _ _ _ _, _, rfl, a, CN, dx, _, _, rfl, ha, TN.cl, TN.nh, nfl_held _ _ _ _ _ _, _, rfl, b, CN, dy, _, _, rfl, hb, TN.cl, TN.nr, nfl_right _ _ _ _ _ _, _, rfl, a, CN, dx, _, _, rfl, ha, TN.cl, TN.nr, nfl_right _ _ _ _ _ _, ?_⟩
    intro x dz nx ndz nex
    refine ⟨q, x, dz, k, h, rv1, rv, r1, r, rfl, upd_same, t2.ahead nx ndz, t3.ahead nx ndz, fun H2 kp hx => ⟨rfl, ?_⟩⟩
    obtain ⟨s2, t4⟩ := made_tree nq nx ndz t2 t3 kp hx
    intro y dw ny ndw ney
    have t1' := t1.same s2
    have nq2 : H2 q ≠ none := fun z => by
      cases e : H q with
      | none => exact nq e
      | some o =>
        rw [s2 _ _ e] at z
        cases z
    refine ⟨q, y, dw, k1, h1, lv1, .ref x, l1, .nd k h r1 r, rfl, upd_same, t1'.ahead ny ndw, t4.ahead ny ndw, fun H3 kp3 hy => ⟨rfl, ?_⟩⟩
    obtain ⟨s3, t5⟩ := made_tree nq2 ny ndw t1' t4 kp3 hy
    exact hQ H3 _ (s2.trans s3) t5
def N_left_up : List Str := ["node", "right"]
theorem sc_left_up : FnScope ["node", "right"] ["node"] (defScope st_left_up) := ⟨rfl, rfl, rfl, by decide +kernel, rfl, by decide +kernel, by decide +kernel⟩
def spLup (CN : Addr) : Sp := fun vs H Q _ => ∃ (q : Addr) (v k h k1 h1 : V) (l l1 r1 : Tr V), vs = [v] ∧ H q ≠ none ∧ TreeAt CN q H v (.nd k h l (.nd k1 h1 l1 r1)) ∧ ∀ H' v', Same H H' → TreeAt CN q H' v' (.nd k1 h1 (.nd k h l l1) r1) → Q v' H'
theorem ok_left_up (d_left_up : Df K mg "left_up" st_left_up ["node"]) (d_Node : Di K mg CN "Node" "Node.__init__" st_Node___init__ ["self", "key", "held", "left", "right"]) (d_level_of : Df K mg "level_of" st_level_of ["node"]) (d_many_of : Df K mg "many_of" st_many_of ["node"]) (TN : NodeT K CN) (mMax : mg "max" = none) : FnOk P w K mg base CX0 4 d_left_up.f d_left_up.fd ["node"] (spLup CN) := by
  have G_Node : FnOk P w K mg base CX0 2 d_Node.f d_Node.fd ["self", "key", "held", "left", "right"] (spNode CN) := ok_Node d_Node d_level_of d_many_of TN mMax
  refine d_left_up.F.ok sc_left_up (fun vs H Q E h => ?_) (fun cdv A outer s H vs Q E hr h => ?_)
  · obtain ⟨q, v, k, h, k1, h1, l, l1, r1, rfl, _⟩ := h
    rfl
  · obtain ⟨q, v, k, h, k1, h1, l, l1, r1, rfl, nq, ht, hQ⟩ := h
    have nd := sc_left_up.nd
    refine ⟨_, (pss_cons (ps_set (i := 1) nd rfl (Or.inl rfl) (pe_fld (pv 0) rfl))
  (pss_one (ps_ret (pe_mk (d := d_Node) G_Node (hr.mono (by omega)) (pa_cons (pe_fld (pv 1) rfl) (pa_cons (pe_fld (pv 1) rfl) (pa_cons (pe_mk (d := d_Node) G_Node (hr.mono (by omega)) (pa_cons (pe_fld (pv 0) rfl) (pa_cons (pe_fld (pv 0) rfl) (pa_cons (pe_fld (pv 0) rfl) (pa_cons (pe_fld (pv 1) rfl) pa_nil))))) (pa_cons (pe_fld (pv 1) rfl) pa_nil)))))))), ?_⟩
    obtain ⟨a, dx, lv, rv, rfl, _, ha, t3, ⟨b, dy, lv1, rv1, rfl, _, hb, t1, t2⟩⟩ := ht
    refine ⟨_, rfl, a, CN, dx, _, _, rfl, ha, TN.cl, TN.nr, nfl_right _ _ _ _ _ _, ?_⟩
    refine ⟨_, rfl, b, CN, dy, _, _, rfl, hb, TN.cl, TN.nk, nfl_key _ _ _ _ _ _, _, rfl, b, CN, dy, _, _, rfl, hb, TN.cl, TN.nh, nfl_held _ _ _ _ _ _, ?_⟩
    refine ⟨_, rfl, a, CN, dx, _, _, rfl, ha, TN.cl, TN.nk, nfl_key _ _ _ _ _ _, _, rfl, a, CN, dx, _, _, rfl, ha, TN.cl, TN.nh, nfl_held _ _ _ _ _ _, _, rfl, a, CN, dx, _, _, rfl, ha, TN.cl, TN.nl, nfl_left _ _ _ _ _ _, _, rfl, b, CN, dy, _, _, rfl, hb, TN.cl, TN.nl, nfl_left _ _ _ _ _ _, ?_⟩
    intro x dz nx ndz nex
    refine ⟨q, x, dz, k, h, lv, lv1, l, l1, rfl, upd_same, t3.ahead nx ndz, t1.ahead nx ndz, fun H2 kp hx => ⟨rfl, ?_⟩⟩
    obtain ⟨s2, t4⟩ := made_tree nq nx ndz t3 t1 kp hx
    refine ⟨_, rfl, b, CN, dy, _, _, rfl, s2 _ _ hb, TN.cl, TN.nr, nfl_right _ _ _ _ _ _, ?_⟩
    intro y dw ny ndw ney
    have t2' := t2.same s2
    have nq2 : H2 q ≠ none := fun z => by
      cases e : H q with
      | none => exact nq e
      | some o =>
        rw [s2 _ _ e] at z
        cases z
    refine ⟨q, y, dw, k1, h1, .ref x, rv1, .nd k h l l1, r1, rfl, upd_same, t4.ahead ny ndw, t2'.ahead ny ndw, fun H3 kp3 hy => ⟨rfl, ?_⟩⟩
    obtain ⟨s3, t5⟩ := made_tree nq2 ny ndw t4 t2' kp3 hy
    exact hQ H3 _ (s2.trans s3) t5
end
end Ord

set_option pp.deepTerms false
set_option pp.maxSteps 1500
namespace Ord
open PySem PySem.Spec PyProof.Rows L2 LamX
open Mir (Tr)
theorem nn_same {H H' : Hp} {q : Addr} (s : Same H H') (n : H q ≠ none) : H' q ≠ none := fun z => by
  cases e : H q with
  | none => exact n e
  | some o =>
    rw [s _ _ e] at z
    cases z
section
variable {P : Program} {w : World} {K : PySem.W.Frag} {mg : Str → Option Value} {base : Heap} {CN : Addr}
/-! ### even -/
def N_even : List Str := ["key", "held", "left", "right", "node"]
theorem sc_even : FnScope ["key", "held", "left", "right", "node"] ["key", "held", "left", "right"] (defScope st_even) := ⟨rfl, rfl, rfl, by decide +kernel, rfl, by decide +kernel, by decide +kernel⟩
def spEven (CN : Addr) : Sp := fun vs H Q _ => ∃ (q : Addr) (k h lv rv : V) (l r : Tr V), vs = [k, h, lv, rv] ∧ H q ≠ none ∧ TreeAt CN q H lv l ∧ TreeAt CN q H rv r ∧ ∀ H' v', Same H H' → TreeAt CN q H' v' (Mir.evn k h l r) → Q v' H'
theorem ok_even (d_even : Df K mg "even" st_even ["key", "held", "left", "right"]) (d_lean : Df K mg "lean" st_lean ["node"]) (d_right_up : Df K mg "right_up" st_right_up ["node"]) (d_left_up : Df K mg "left_up" st_left_up ["node"]) (d_Node : Di K mg CN "Node" "Node.__init__" st_Node___init__ ["self", "key", "held", "left", "right"]) (d_level_of : Df K mg "level_of" st_level_of ["node"]) (d_many_of : Df K mg "many_of" st_many_of ["node"]) (TN : NodeT K CN) (mMax : mg "max" = none) : FnOk P w K mg base CX0 5 d_even.f d_even.fd ["key", "held", "left", "right"] (spEven CN) := by
  have G_Node : FnOk P w K mg base CX0 2 d_Node.f d_Node.fd ["self", "key", "held", "left", "right"] (spNode CN) := ok_Node d_Node d_level_of d_many_of TN mMax
  have G_lean : FnOk P w K mg base CX0 2 d_lean.f d_lean.fd ["node"] (spLean CN) := ok_lean d_lean d_level_of TN
  have G_right_up : FnOk P w K mg base CX0 4 d_right_up.f d_right_up.fd ["node"] (spRup CN) := ok_right_up d_right_up d_Node d_level_of d_many_of TN mMax
  have G_left_up : FnOk P w K mg base CX0 4 d_left_up.f d_left_up.fd ["node"] (spLup CN) := ok_left_up d_left_up d_Node d_level_of d_many_of TN mMax
  refine d_even.F.ok sc_even (fun vs H Q E h => ?_) (fun cdv A outer s H vs Q E hr h => ?_)
  · obtain ⟨q, k, h, lv, rv, l, r, rfl, _⟩ := h
    rfl
  · obtain ⟨q, k, h, lv, rv, l, r, rfl, nq, hl, hrr, hQ⟩ := h
    have nd := sc_even.nd
    refine ⟨_, (pss_cons (ps_set (i := 4) nd rfl (Or.inl rfl) (pe_mk (d := d_Node) G_Node (hr.mono (by omega)) (pa_cons (pv 0) (pa_cons (pv 1) (pa_cons (pv 2) (pa_cons (pv 3) pa_nil))))))
  (pss_cons (ps_if (pt_cmpR op_gt (pe_cd (d := d_lean) G_lean (hr.mono (by omega)) (pa_cons (pv 4) pa_nil)) pe_int (nomark _))
    (C8.pss_cut (ps_if (pt_cmpR op_lt (pe_cd (d := d_lean) G_lean (hr.mono (by omega)) (pa_cons (pv 2) pa_nil)) pe_int (nomark _))
    (pss_one (ps_set (i := 2) nd rfl (Or.inl rfl) (pe_cd (d := d_left_up) G_left_up (hr.mono (by omega)) (pa_cons (pv 2) pa_nil))))
    pss_nil)
  (pss_one (ps_ret (pe_cd (d := d_right_up) G_right_up (hr.mono (by omega)) (pa_cons (pe_mk (d := d_Node) G_Node (hr.mono (by omega)) (pa_cons (pv 0) (pa_cons (pv 1) (pa_cons (pv 2) (pa_cons (pv 3) pa_nil))))) pa_nil)))))
    pss_nil)
  (pss_cons (ps_if (pt_cmpR op_lt (pe_cd (d := d_lean) G_lean (hr.mono (by omega)) (pa_cons (pv 4) pa_nil)) (pe_un un_neg pe_int) (nomark _))
    (C8.pss_cut (ps_if (pt_cmpR op_gt (pe_cd (d := d_lean) G_lean (hr.mono (by omega)) (pa_cons (pv 3) pa_nil)) pe_int (nomark _))
    (pss_one (ps_set (i := 3) nd rfl (Or.inl rfl) (pe_cd (d := d_right_up) G_right_up (hr.mono (by omega)) (pa_cons (pv 3) pa_nil))))
    pss_nil)
  (pss_one (ps_ret (pe_cd (d := d_left_up) G_left_up (hr.mono (by omega)) (pa_cons (pe_mk (d := d_Node) G_Node (hr.mono (by omega)) (pa_cons (pv 0) (pa_cons (pv 1) (pa_cons (pv 2) (pa_cons (pv 3) pa_nil))))) pa_nil)))))
    pss_nil)
  (pss_one (ps_ret (pv 4)))))), ?_⟩
    refine ⟨_, rfl, _, rfl, _, rfl, _, rfl, ?_⟩
    intro x dz nx ndz nex
    refine ⟨q, x, dz, k, h, lv, rv, l, r, rfl, upd_same, hl.ahead nx ndz, hrr.ahead nx ndz, fun H2 kp hx => ⟨rfl, ?_⟩⟩
    obtain ⟨s2, t2⟩ := made_tree nq nx ndz hl hrr kp hx
    have nq2 := nn_same s2 nq
    have hl2 := hl.same s2
    have hr2 := hrr.same s2
    refine ⟨_, rfl, q, _, k, h, l, r, rfl, t2, _, _, rfl, rfl, _, rfl, ?_⟩
    refine iteD (fun c1 => ?_) (fun c1 => ?_)
    · have c1' : 1 < (Mir.lev l : Int) - (Mir.lev r : Int) := c1
      have ev : Mir.evn k h l r = Mir.rup (.nd k h (if Mir.lean l < 0 then Mir.lup l else l) r) := if_pos c1'
      rw [ev] at hQ
      clear ev
      cases l with
      | lf => simp [Mir.lev] at c1'; omega
      | nd k1 g1 l1 r1 =>
        refine ⟨fun σ H3 => ∃ (lv' k2 g2 : V) (l2 r2 : Tr V) (v4 : Option V), σ = [some k, some h, some lv', some rv, v4] ∧ Same H H3 ∧ TreeAt CN q H3 lv' (.nd k2 g2 l2 r2) ∧ (if Mir.lean (Tr.nd k1 g1 l1 r1) < 0 then Mir.lup (Tr.nd k1 g1 l1 r1) else Tr.nd k1 g1 l1 r1) = .nd k2 g2 l2 r2, ?_, ?_⟩
        · refine ⟨_, rfl, q, lv, k1, g1, l1, r1, rfl, hl2, _, _, rfl, rfl, _, rfl, ?_⟩
          refine iteD (fun c2 => ?_) (fun c2 => ?_)
          · have c2' : (Mir.lev l1 : Int) - (Mir.lev r1 : Int) < 0 := c2
            cases r1 with
            | lf => simp [Mir.lev] at c2'; omega
            | nd k3 g3 l3 r3 =>
              refine ⟨_, rfl, q, lv, k1, g1, k3, g3, l1, l3, r3, rfl, nq2, hl2, fun H3 v3 s3 t3 => ?_⟩
              exact ⟨v3, k3, g3, _, _, _, rfl, s2.trans s3, t3, if_pos c2'⟩
          · have c2' : ¬ (Mir.lev l1 : Int) - (Mir.lev r1 : Int) < 0 := c2
            exact ⟨lv, k1, g1, l1, r1, _, rfl, s2, hl2, if_neg c2'⟩
        rintro σ H3 ⟨lv', k2, g2, l2, r2, v4, rfl, s3, t3, e2⟩
        rw [e2] at hQ
        have nq3 := nn_same s3 nq
        have hr3 := hrr.same s3
        refine ⟨_, rfl, _, rfl, _, rfl, _, rfl, ?_⟩
        intro y dw ny ndw ney
        refine ⟨q, y, dw, k, h, lv', rv, .nd k2 g2 l2 r2, r, rfl, upd_same, t3.ahead ny ndw, hr3.ahead ny ndw, fun H4 kp4 hy => ⟨rfl, ?_⟩⟩
        obtain ⟨s4, t4⟩ := made_tree nq3 ny ndw t3 hr3 kp4 hy
        refine ⟨q, _, k, h, k2, g2, l2, r2, r, rfl, nn_same s4 nq3, t4, fun H5 v5 s5 t5 => ?_⟩
        exact hQ H5 v5 ((s3.trans s4).trans s5) t5
    · have c1' : ¬ 1 < (Mir.lev l : Int) - (Mir.lev r : Int) := c1
      refine ⟨_, rfl, q, _, k, h, l, r, rfl, t2, _, rfl, _, _, rfl, rfl, _, rfl, ?_⟩
      refine iteD (fun c2 => ?_) (fun c2 => ?_)
      · have c2' : (Mir.lev l : Int) - (Mir.lev r : Int) < -1 := c2
        have ev : Mir.evn k h l r = Mir.lup (.nd k h l (if 0 < Mir.lean r then Mir.rup r else r)) := (if_neg c1').trans (if_pos c2')
        rw [ev] at hQ
        clear ev
        cases r with
        | lf => simp [Mir.lev] at c2'; omega
        | nd k1 g1 l1 r1 =>
          refine ⟨fun σ H3 => ∃ (rv' k2 g2 : V) (l2 r2 : Tr V) (v4 : Option V), σ = [some k, some h, some lv, some rv', v4] ∧ Same H H3 ∧ TreeAt CN q H3 rv' (.nd k2 g2 l2 r2) ∧ (if 0 < Mir.lean (Tr.nd k1 g1 l1 r1) then Mir.rup (Tr.nd k1 g1 l1 r1) else Tr.nd k1 g1 l1 r1) = .nd k2 g2 l2 r2, ?_, ?_⟩
          · refine ⟨_, rfl, q, rv, k1, g1, l1, r1, rfl, hr2, _, _, rfl, rfl, _, rfl, ?_⟩
            refine iteD (fun c3 => ?_) (fun c3 => ?_)
            · have c3' : 0 < (Mir.lev l1 : Int) - (Mir.lev r1 : Int) := c3
              cases l1 with
              | lf => simp [Mir.lev] at c3'; omega
              | nd k3 g3 l3 r3 =>
                refine ⟨_, rfl, q, rv, k1, g1, k3, g3, l3, r3, r1, rfl, nq2, hr2, fun H3 v3 s3 t3 => ?_⟩
                exact ⟨v3, k3, g3, _, _, _, rfl, s2.trans s3, t3, if_pos c3'⟩
            · have c3' : ¬ 0 < (Mir.lev l1 : Int) - (Mir.lev r1 : Int) := c3
              exact ⟨rv, k1, g1, l1, r1, _, rfl, s2, hr2, if_neg c3'⟩
          rintro σ H3 ⟨rv', k2, g2, l2, r2, v4, rfl, s3, t3, e2⟩
          rw [e2] at hQ
          have nq3 := nn_same s3 nq
          have hl3 := hl.same s3
          refine ⟨_, rfl, _, rfl, _, rfl, _, rfl, ?_⟩
          intro y dw ny ndw ney
          refine ⟨q, y, dw, k, h, lv, rv', l, .nd k2 g2 l2 r2, rfl, upd_same, hl3.ahead ny ndw, t3.ahead ny ndw, fun H4 kp4 hy => ⟨rfl, ?_⟩⟩
          obtain ⟨s4, t4⟩ := made_tree nq3 ny ndw hl3 t3 kp4 hy
          refine ⟨q, _, k, h, k2, g2, l, l2, r2, rfl, nn_same s4 nq3, t4, fun H5 v5 s5 t5 => ?_⟩
          exact hQ H5 v5 ((s3.trans s4).trans s5) t5
      · have c2' : ¬ (Mir.lev l : Int) - (Mir.lev r : Int) < -1 := c2
        have ev : Mir.evn k h l r = .nd k h l r := (if_neg c1').trans (if_neg c2')
        rw [ev] at hQ
        exact ⟨_, rfl, hQ H2 _ s2 t2⟩
/-! ### with_key -/
def N_with_key : List Str := ["node", "key", "held", "order", "side", "left", "is_new", "right"]
theorem sc_with_key : FnScope ["node", "key", "held", "order", "side", "left", "is_new", "right"] ["node", "key", "held", "order"] (defScope st_with_key) := ⟨rfl, rfl, rfl, by decide +kernel, rfl, by decide +kernel, by decide +kernel⟩
/-- all keys of a tree may be asked of -/
def TDom (O : Orc P w K mg base) (t : Tr V) (H : Hp) : Prop := ∀ x ∈ Mir.toL t, O.Dom x.1 H
theorem TDom.tk {O : Orc P w K mg base} {t : Tr V} {H H' : Hp} (h : TDom O t H) (k : TK H H') : TDom O t H' := fun x hx => O.dom k (h x hx)
theorem TDom.l {O : Orc P w K mg base} {k g : V} {l r : Tr V} {H : Hp} (h : TDom O (.nd k g l r) H) : TDom O l H := fun x hx => h x (by rw [Mir.toL]; exact List.mem_append_left _ hx)
theorem TDom.r {O : Orc P w K mg base} {k g : V} {l r : Tr V} {H : Hp} (h : TDom O (.nd k g l r) H) : TDom O r H := fun x hx => h x (by rw [Mir.toL]; exact List.mem_append_right _ (List.mem_cons_of_mem _ hx))
theorem TDom.k {O : Orc P w K mg base} {k g : V} {l r : Tr V} {H : Hp} (h : TDom O (.nd k g l r) H) : O.Dom k H := h (k, g) (by rw [Mir.toL]; exact List.mem_append_right _ List.mem_cons_self)
def spWk (P : Program) (w : World) (K : PySem.W.Frag) (mg : Str → Option Value) (base : Heap) (CN : Addr) (n : Nat) : Sp := fun vs H Q _ => ∃ (O : Orc P w K mg base) (v key held : V) (t : Tr V) (l : Lg), vs = [v, key, held, .ref O.f] ∧
  TreeAt CN O.q H v t ∧ Mir.lev t ≤ n ∧ O.Log l H ∧ TDom O t H ∧ O.Dom key H ∧ l.length + Mir.lev t ≤ 90000 ∧
  ∀ H' tu v', KB O.q H H' → TreeAt CN O.q H' v' (Mir.wk O.ans t key held l).1 → H' tu = some (.tup [v', .bl (Mir.wk O.ans t key held l).2.1]) → O.Log (Mir.wk O.ans t key held l).2.2 H' → Q (.ref tu) H'
theorem ok_with_key (d_with_key : Df K mg "with_key" st_with_key ["node", "key", "held", "order"]) (d_even : Df K mg "even" st_even ["key", "held", "left", "right"]) (d_lean : Df K mg "lean" st_lean ["node"]) (d_right_up : Df K mg "right_up" st_right_up ["node"]) (d_left_up : Df K mg "left_up" st_left_up ["node"]) (d_Node : Di K mg CN "Node" "Node.__init__" st_Node___init__ ["self", "key", "held", "left", "right"]) (d_level_of : Df K mg "level_of" st_level_of ["node"]) (d_many_of : Df K mg "many_of" st_many_of ["node"]) (TN : NodeT K CN) (mMax : mg "max" = none) : ∀ n, FnOk P w K mg base CX0 (n + 6) d_with_key.f d_with_key.fd ["node", "key", "held", "order"] (spWk P w K mg base CN n) := by
  have G_Node : FnOk P w K mg base CX0 2 d_Node.f d_Node.fd ["self", "key", "held", "left", "right"] (spNode CN) := ok_Node d_Node d_level_of d_many_of TN mMax
  have G_even : FnOk P w K mg base CX0 5 d_even.f d_even.fd ["key", "held", "left", "right"] (spEven CN) := ok_even d_even d_lean d_right_up d_left_up d_Node d_level_of d_many_of TN mMax
  intro n
  induction n with
  | zero =>
    have G_with_key : FnOk P w K mg base CX0 0 d_with_key.f d_with_key.fd ["node", "key", "held", "order"] (fun _ _ _ _ => False) := ⟨fun _ _ _ _ h => h.elim, fun _ _ _ _ _ _ _ _ _ _ _ _ _ h => h.elim⟩
    refine d_with_key.F.ok sc_with_key (fun vs H Q E h => ?_) (fun cdv A outer s H vs Q E hr h => ?_)
    · obtain ⟨O, v, key, held, t, l, rfl, _⟩ := h
      rfl
    · obtain ⟨O, v, key, held, t, l, rfl, ht, hlv, hL, hD, hk, hc, hQ⟩ := h
      have nd := sc_with_key.nd
      refine ⟨_, (pss_cons (ps_if (pt_cmpR op_isN (pv 0) pe_non (nomark _))
    (pss_one (ps_ret (pe_tup (pa_cons (pe_mk (d := d_Node) G_Node (hr.mono (by omega)) (pa_cons (pv 1) (pa_cons (pv 2) (pa_cons pe_non (pa_cons pe_non pa_nil))))) (pa_cons pe_bl pa_nil)))))
    pss_nil)
  (pss_cons (ps_set (i := 4) nd rfl (Or.inl rfl) (pe_callV O.run (hr.mono (by omega)) (pa_cons (pe_fld (pv 0) rfl) (pa_cons (pv 1) pa_nil)) (i := 3)))
  (pss_cons (ps_if (pt_cmpR op_eq (pv 4) pe_int (nomark _))
    (pss_one (ps_ret (pe_tup (pa_cons (pe_mk (d := d_Node) G_Node (hr.mono (by omega)) (pa_cons (pe_fld (pv 0) rfl) (pa_cons (pv 2) (pa_cons (pe_fld (pv 0) rfl) (pa_cons (pe_fld (pv 0) rfl) pa_nil))))) (pa_cons pe_bl pa_nil)))))
    pss_nil)
  (pss_cons (ps_if (pt_cmpR op_gt (pv 4) pe_int (nomark _))
    (pss_cons (ps_asg (pe_cd (d := d_with_key) G_with_key (hr.mono (by omega)) (pa_cons (pe_fld (pv 0) rfl) (pa_cons (pv 1) (pa_cons (pv 2) (pa_cons (pv 3) pa_nil))))) (pg_tup (by rfl) (pgs_cons (pg_name (i := 5) nd rfl (Or.inl rfl)) (pgs_cons (pg_name (i := 6) nd rfl (Or.inl rfl)) pgs_nil))))
  (pss_one (ps_ret (pe_tup (pa_cons (pe_cd (d := d_even) G_even (hr.mono (by omega)) (pa_cons (pe_fld (pv 0) rfl) (pa_cons (pe_fld (pv 0) rfl) (pa_cons (pv 5) (pa_cons (pe_fld (pv 0) rfl) pa_nil))))) (pa_cons (pv 6) pa_nil))))))
    pss_nil)
  (pss_cons (ps_asg (pe_cd (d := d_with_key) G_with_key (hr.mono (by omega)) (pa_cons (pe_fld (pv 0) rfl) (pa_cons (pv 1) (pa_cons (pv 2) (pa_cons (pv 3) pa_nil))))) (pg_tup (by rfl) (pgs_cons (pg_name (i := 7) nd rfl (Or.inl rfl)) (pgs_cons (pg_name (i := 6) nd rfl (Or.inl rfl)) pgs_nil))))
  (pss_one (ps_ret (pe_tup (pa_cons (pe_cd (d := d_even) G_even (hr.mono (by omega)) (pa_cons (pe_fld (pv 0) rfl) (pa_cons (pe_fld (pv 0) rfl) (pa_cons (pe_fld (pv 0) rfl) (pa_cons (pv 7) pa_nil))))) (pa_cons (pv 6) pa_nil)))))))))), ?_⟩
      cases t with
      | nd k g l r => simp [Mir.lev] at hlv
      | lf =>
        obtain rfl : v = .non := ht
        refine ⟨_, rfl, rfl, _, rfl, ?_⟩
        rw [non_non]
        refine iteT ?_
        have nq := O.isq hL
        refine ⟨_, rfl, _, rfl, ?_⟩
        intro x dz nx ndz nex
        refine ⟨O.q, x, dz, key, held, .non, .non, .lf, .lf, rfl, upd_same, rfl, rfl, fun H2 kp hx => ⟨rfl, ?_⟩⟩
        obtain ⟨s2, t2⟩ := made_tree (CN := CN) (q := O.q) (k := key) (h := held) (lv := .non) (rv := .non) (l := .lf) (r := .lf) nq nx ndz rfl rfl kp hx
        refine ⟨by show 2 ≤ sizeLine; decide, fun tu ntu => ?_⟩
        have s3 := s2.trans (Same.new (o := .tup [.ref x, .bl true]) ntu)
        exact hQ _ tu (.ref x) (KB.of_same s3) (t2.same (Same.new ntu)) upd_same (O.stay (Stay.of_same s3) hL)
  | succ n ih =>
    have G_with_key := ih
    refine d_with_key.F.ok sc_with_key (fun vs H Q E h => ?_) (fun cdv A outer s H vs Q E hr h => ?_)
    · obtain ⟨O, v, key, held, t, l, rfl, _⟩ := h
      rfl
    · obtain ⟨O, v, key, held, t, lg, rfl, ht, hlv, hL, hD, hk, hc, hQ⟩ := h
      have nd := sc_with_key.nd
      refine ⟨_, (pss_cons (ps_if (pt_cmpR op_isN (pv 0) pe_non (nomark _))
    (pss_one (ps_ret (pe_tup (pa_cons (pe_mk (d := d_Node) G_Node (hr.mono (by omega)) (pa_cons (pv 1) (pa_cons (pv 2) (pa_cons pe_non (pa_cons pe_non pa_nil))))) (pa_cons pe_bl pa_nil)))))
    pss_nil)
  (pss_cons (ps_set (i := 4) nd rfl (Or.inl rfl) (pe_callV O.run (hr.mono (by omega)) (pa_cons (pe_fld (pv 0) rfl) (pa_cons (pv 1) pa_nil)) (i := 3)))
  (pss_cons (ps_if (pt_cmpR op_eq (pv 4) pe_int (nomark _))
    (pss_one (ps_ret (pe_tup (pa_cons (pe_mk (d := d_Node) G_Node (hr.mono (by omega)) (pa_cons (pe_fld (pv 0) rfl) (pa_cons (pv 2) (pa_cons (pe_fld (pv 0) rfl) (pa_cons (pe_fld (pv 0) rfl) pa_nil))))) (pa_cons pe_bl pa_nil)))))
    pss_nil)
  (pss_cons (ps_if (pt_cmpR op_gt (pv 4) pe_int (nomark _))
    (pss_cons (ps_asg (pe_cd (d := d_with_key) G_with_key (hr.mono (by omega)) (pa_cons (pe_fld (pv 0) rfl) (pa_cons (pv 1) (pa_cons (pv 2) (pa_cons (pv 3) pa_nil))))) (pg_tup (by rfl) (pgs_cons (pg_name (i := 5) nd rfl (Or.inl rfl)) (pgs_cons (pg_name (i := 6) nd rfl (Or.inl rfl)) pgs_nil))))
  (pss_one (ps_ret (pe_tup (pa_cons (pe_cd (d := d_even) G_even (hr.mono (by omega)) (pa_cons (pe_fld (pv 0) rfl) (pa_cons (pe_fld (pv 0) rfl) (pa_cons (pv 5) (pa_cons (pe_fld (pv 0) rfl) pa_nil))))) (pa_cons (pv 6) pa_nil))))))
    pss_nil)
  (pss_cons (ps_asg (pe_cd (d := d_with_key) G_with_key (hr.mono (by omega)) (pa_cons (pe_fld (pv 0) rfl) (pa_cons (pv 1) (pa_cons (pv 2) (pa_cons (pv 3) pa_nil))))) (pg_tup (by rfl) (pgs_cons (pg_name (i := 7) nd rfl (Or.inl rfl)) (pgs_cons (pg_name (i := 6) nd rfl (Or.inl rfl)) pgs_nil))))
  (pss_one (ps_ret (pe_tup (pa_cons (pe_cd (d := d_even) G_even (hr.mono (by omega)) (pa_cons (pe_fld (pv 0) rfl) (pa_cons (pe_fld (pv 0) rfl) (pa_cons (pe_fld (pv 0) rfl) (pa_cons (pv 7) pa_nil))))) (pa_cons (pv 6) pa_nil)))))))))), ?_⟩
      have nq := O.isq hL
      cases t with
      | lf =>
        obtain rfl : v = .non := ht
        refine ⟨_, rfl, rfl, _, rfl, ?_⟩
        rw [non_non]
        refine iteT ?_
        refine ⟨_, rfl, _, rfl, ?_⟩
        intro x dz nx ndz nex
        refine ⟨O.q, x, dz, key, held, .non, .non, .lf, .lf, rfl, upd_same, rfl, rfl, fun H2 kp hx => ⟨rfl, ?_⟩⟩
        obtain ⟨s2, t2⟩ := made_tree (CN := CN) (q := O.q) (k := key) (h := held) (lv := .non) (rv := .non) (l := .lf) (r := .lf) nq nx ndz rfl rfl kp hx
        refine ⟨by show 2 ≤ sizeLine; decide, fun tu ntu => ?_⟩
        have s3 := s2.trans (Same.new (o := .tup [.ref x, .bl true]) ntu)
        exact hQ _ tu (.ref x) (KB.of_same s3) (t2.same (Same.new ntu)) upd_same (O.stay (Stay.of_same s3) hL)
      | nd k g l r =>
        have hlv' : 1 + max (Mir.lev l) (Mir.lev r) ≤ n + 1 := hlv
        have hc' : lg.length + (1 + max (Mir.lev l) (Mir.lev r)) ≤ 90000 := hc
        have ht0 := ht
        obtain ⟨a, dx, lv, rv, rfl, aq, ha, h1, h2⟩ := ht
        refine ⟨_, rfl, rfl, _, rfl, ?_⟩
        rw [non_ref]
        refine iteF ?_
        -- the question
        refine ⟨rfl, O.isf hL, _, rfl, a, CN, dx, _, _, rfl, ha, TN.cl, TN.nk, nfl_key _ _ _ _ _ _, _, rfl, O.isf hL, k, key, lg, rfl, hL, by omega, hD.k, hk, fun H1 kb1 hL1 => ?_⟩
        have ha1 := kb1.keep _ _ aq ha
        have h11 := h1.kb kb1
        have h21 := h2.kb kb1
        have nq1 := O.isq hL1
        obtain ⟨sd, esd⟩ : ∃ sd, sd = O.ans lg k key := ⟨_, rfl⟩
        have wk0 : Mir.wk O.ans (.nd k g l r) key held lg = if sd = 0 then (.nd k held l r, false, lg ++ [(k, key)]) else if 0 < sd then (Mir.evn k g (Mir.wk O.ans l key held (lg ++ [(k, key)])).1 r, (Mir.wk O.ans l key held (lg ++ [(k, key)])).2.1, (Mir.wk O.ans l key held (lg ++ [(k, key)])).2.2) else (Mir.evn k g l (Mir.wk O.ans r key held (lg ++ [(k, key)])).1, (Mir.wk O.ans r key held (lg ++ [(k, key)])).2.1, (Mir.wk O.ans r key held (lg ++ [(k, key)])).2.2) := by
          rw [esd]
          rfl
        rw [wk0] at hQ
        rw [← esd]
        clear wk0
        refine ⟨_, rfl, rfl, _, rfl, iteI (fun c1 => ?_) (fun c1 => ?_)⟩
        · rw [if_pos c1] at hQ
          refine ⟨_, rfl, a, CN, dx, _, _, rfl, ha1, TN.cl, TN.nk, nfl_key _ _ _ _ _ _, _, rfl, _, rfl, a, CN, dx, _, _, rfl, ha1, TN.cl, TN.nl, nfl_left _ _ _ _ _ _, _, rfl, a, CN, dx, _, _, rfl, ha1, TN.cl, TN.nr, nfl_right _ _ _ _ _ _, ?_⟩
          intro x dz nx ndz nex
          refine ⟨O.q, x, dz, k, held, lv, rv, l, r, rfl, upd_same, h11.ahead nx ndz, h21.ahead nx ndz, fun H2 kp hx => ⟨rfl, ?_⟩⟩
          obtain ⟨s2, t2⟩ := made_tree nq1 nx ndz h11 h21 kp hx
          refine ⟨by show 2 ≤ sizeLine; decide, fun tu ntu => ?_⟩
          have s3 := s2.trans (Same.new (o := .tup [.ref x, .bl false]) ntu)
          exact hQ _ tu (.ref x) (kb1.trans (KB.of_same s3)) (t2.same (Same.new ntu)) upd_same (O.stay (Stay.of_same s3) hL1)
        rw [if_neg c1] at hQ
        refine ⟨_, rfl, _, _, rfl, rfl, _, rfl, ?_⟩
        refine iteD (fun c2 => ?_) (fun c2 => ?_)
        · have c2' : 0 < sd := c2
          rw [if_pos c2'] at hQ
          refine ⟨_, rfl, a, CN, dx, _, _, rfl, ha1, TN.cl, TN.nl, nfl_left _ _ _ _ _ _, _, rfl, _, rfl, _, rfl, O, lv, key, held, l, _, rfl, h11, by omega, hL1, (hD.l).tk kb1.tk, O.dom kb1.tk hk, by rw [List.length_append, List.length_singleton]; omega, fun H2 tu v2 kb2 t2 htu hL2 => ?_⟩
          refine ⟨tu, _, rfl, SqT.of htu, rfl, _, _, rfl, _, _, rfl, rfl, ?_⟩
          have kb3 := kb1.trans kb2
          have ha2 := kb2.keep _ _ aq ha1
          have h22 := h21.kb kb2
          refine ⟨_, rfl, a, CN, dx, _, _, rfl, ha2, TN.cl, TN.nk, nfl_key _ _ _ _ _ _, _, rfl, a, CN, dx, _, _, rfl, ha2, TN.cl, TN.nh, nfl_held _ _ _ _ _ _, _, rfl, _, rfl, a, CN, dx, _, _, rfl, ha2, TN.cl, TN.nr, nfl_right _ _ _ _ _ _, O.q, k, g, v2, rv, _, r, rfl, O.isq hL2, t2, h22, fun H3 v3 s3 t3 => ?_⟩
          refine ⟨_, rfl, by show 2 ≤ sizeLine; decide, fun tw ntw => ?_⟩
          have s4 := s3.trans (Same.new (o := .tup [v3, .bl (Mir.wk O.ans l key held (lg ++ [(k, key)])).2.1]) ntw)
          exact hQ _ tw v3 (kb3.trans (KB.of_same s4)) (t3.same (Same.new ntw)) upd_same (O.stay (Stay.of_same s4) hL2)
        · have c2' : ¬ 0 < sd := c2
          rw [if_neg c2'] at hQ
          refine ⟨_, rfl, a, CN, dx, _, _, rfl, ha1, TN.cl, TN.nr, nfl_right _ _ _ _ _ _, _, rfl, _, rfl, _, rfl, O, rv, key, held, r, _, rfl, h21, by omega, hL1, (hD.r).tk kb1.tk, O.dom kb1.tk hk, by rw [List.length_append, List.length_singleton]; omega, fun H2 tu v2 kb2 t2 htu hL2 => ?_⟩
          refine ⟨tu, _, rfl, SqT.of htu, rfl, _, _, rfl, _, _, rfl, rfl, ?_⟩
          have kb3 := kb1.trans kb2
          have ha2 := kb2.keep _ _ aq ha1
          have h12 := h11.kb kb2
          refine ⟨_, rfl, a, CN, dx, _, _, rfl, ha2, TN.cl, TN.nk, nfl_key _ _ _ _ _ _, _, rfl, a, CN, dx, _, _, rfl, ha2, TN.cl, TN.nh, nfl_held _ _ _ _ _ _, _, rfl, a, CN, dx, _, _, rfl, ha2, TN.cl, TN.nl, nfl_left _ _ _ _ _ _, _, rfl, O.q, k, g, lv, v2, l, _, rfl, O.isq hL2, h12, t2, fun H3 v3 s3 t3 => ?_⟩
          refine ⟨_, rfl, by show 2 ≤ sizeLine; decide, fun tw ntw => ?_⟩
          have s4 := s3.trans (Same.new (o := .tup [v3, .bl (Mir.wk O.ans r key held (lg ++ [(k, key)])).2.1]) ntw)
          exact hQ _ tw v3 (kb3.trans (KB.of_same s4)) (t3.same (Same.new ntw)) upd_same (O.stay (Stay.of_same s4) hL2)
end
end Ord

set_option pp.deepTerms false
set_option pp.maxSteps 1500
namespace Ord
open PySem PySem.Spec PyProof.Rows L2 LamX
open Mir (Tr)
section
variable {P : Program} {w : World} {K : PySem.W.Frag} {mg : Str → Option Value} {base : Heap} {CN : Addr}
end
end Ord

namespace Ord
open PySem PySem.Spec PyProof.Rows L2 LamX
/-! ### a written log of questions -/
def LogAt (H : Hp) (ps : List V) (l : Lg) : Prop := Paired (fun v z => ∃ p, v = V.ref p ∧ H p = some (.tup [z.1, z.2])) ps l
theorem LogAt.tk {H H' : Hp} {ps : List V} {l : Lg} (h : LogAt H ps l) (k : TK H H') : LogAt H' ps l := Paired.mapP h fun v z ⟨p, e1, e2⟩ => ⟨p, e1, k _ _ e2⟩
theorem LogAt.length {H : Hp} {ps : List V} {l : Lg} (h : LogAt H ps l) : ps.length = l.length := Paired.length h
theorem Paired.snoc {α β : Type} {F : α → β → Prop} {x : α} {y : β} (h : F x y) : ∀ {xs : List α} {ys : List β}, Paired F xs ys → Paired F (xs ++ [x]) (ys ++ [y])
  | _, _, .nil => .cons h .nil
  | _, _, .cons r t => .cons r (Paired.snoc h t)
theorem LogAt.snoc {H : Hp} {ps : List V} {l : Lg} {p : Addr} {x y : V} (h : LogAt H ps l) (e : H p = some (.tup [x, y])) : LogAt H (ps ++ [.ref p]) (l ++ [(x, y)]) := Paired.snoc ⟨p, rfl, e⟩ h
theorem CellV.stay {q c : Addr} {H H' : Hp} {v : V} (h : CellV H c v) (s : Stay q H H') : CellV H' c v := by
  obtain ⟨o, u, e, r⟩ := h
  exact ⟨o, u, s _ _ e (.inr True.intro), r⟩
theorem ClosAt.stay {q : Addr} {cl : List (Str × Addr)} {fr : List Str} {ws : List (Option V)} {H H' : Hp} (h : ClosAt cl fr ws H) (s : Stay q H H') : ClosAt cl fr ws H' :=
  ⟨h.len, fun b hb => by
    obtain ⟨o, v, e, r⟩ := h.all b hb
    exact ⟨o, v, s _ _ e (.inr True.intro), r⟩, h.inj, fun i y e => by
    obtain ⟨c, hc, hv⟩ := h.has i y e
    exact ⟨c, hc, fun v ev => (hv v ev).stay s⟩⟩
theorem ClosAt.out {cl : List (Str × Addr)} {fr : List Str} {ws : List (Option V)} {H : Hp} (h : ClosAt cl fr ws H) {b : Addr} {o : HO} (e : H b = some o) (n : ∀ ob, o ≠ Fz ob) : b ∉ cl.map (·.2) := fun hb => by
  obtain ⟨ob, v, e', _⟩ := h.all b hb
  rw [e] at e'
  exact n ob (Option.some.inj e')
theorem tup_fz {xs : List V} (ob : Obj) : HO.tup xs ≠ Fz ob := fun z => by cases z
theorem lst_fz {xs : List V} (ob : Obj) : HO.lst xs ≠ Fz ob := fun z => by cases z
theorem Pr.strip {cl : List (Str × Addr)} {fr : List Str} {ws : List (Option V)} {H : Hp} (h : ClosAt cl fr ws H) {x : V} {e : Int × Int} (p : Pr H x e) : Pr (strip cl H) x e := by
  obtain ⟨a, e1, e2⟩ := p
  exact ⟨a, e1, by rw [strip_out (h.out e2 tup_fz)]; exact e2⟩
theorem LogAt.get {H : Hp} : ∀ {ps : List V} {l : Lg} {i : Nat} {x : V}, LogAt H ps l → ps[i]? = some x → ∃ z, l[i]? = some z ∧ ∃ t, x = V.ref t ∧ H t = some (.tup [z.1, z.2])
  | _, _, _, _, .nil, e => by simp at e
  | _, _, 0, _, .cons r _, e => by
    simp at e
    subst e
    exact ⟨_, rfl, r⟩
  | _, _, i + 1, _, .cons _ t, e => by
    obtain ⟨z, h1, h2⟩ := LogAt.get (i := i) t (by simpa using e)
    exact ⟨z, by simpa using h1, h2⟩
/-- the end of a lambda's call that writes a question down -/
theorem relend_ask {cl : List (Str × Addr)} {fr : List Str} {ws : List (Option V)} {H : Hp} {q t : Addr} {x y : V} {ps : List V} (C : ClosAt cl fr ws H) (hq : H q = some (.lst ps)) (ht : strip cl H t = none)
    (hf : ∀ b, b ∈ cl.map (·.2) → upd (upd (strip cl H) t (.tup [x, y])) q (.lst (ps ++ [.ref t])) b = Option.none) :
    KB q H (relend cl H (upd (upd (strip cl H) t (.tup [x, y])) q (.lst (ps ++ [.ref t])))) ∧ Stay q H (upd (relend cl H (upd (upd (strip cl H) t (.tup [x, y])) q (.lst (ps ++ [.ref t])))) q (.lst ps)) ∧
    relend cl H (upd (upd (strip cl H) t (.tup [x, y])) q (.lst (ps ++ [.ref t]))) q = some (.lst (ps ++ [.ref t])) ∧ relend cl H (upd (upd (strip cl H) t (.tup [x, y])) q (.lst (ps ++ [.ref t]))) t = some (.tup [x, y]) ∧ H t = Option.none := by
  have qc : q ∉ cl.map (·.2) := C.out hq lst_fz
  have hqs : strip cl H q = some (.lst ps) := by rw [strip_out qc]; exact hq
  have qt : q ≠ t := ne_of_none hqs ht
  have tc : t ∉ cl.map (·.2) := fun z => by
    have e := hf t z
    rw [upd_ne qt.symm, upd_same] at e
    cases e
  have ht' : H t = none := by rw [strip_out tc] at ht; exact ht
  have inR : ∀ b, b ∈ cl.map (·.2) → relend cl H (upd (upd (strip cl H) t (.tup [x, y])) q (.lst (ps ++ [.ref t]))) b = H b := fun b hb => if_pos hb
  have outR : ∀ b, b ∉ cl.map (·.2) → relend cl H (upd (upd (strip cl H) t (.tup [x, y])) q (.lst (ps ++ [.ref t]))) b = upd (upd (strip cl H) t (.tup [x, y])) q (.lst (ps ++ [.ref t])) b := fun b hb => if_neg hb
  have keep : ∀ b o, b ≠ q → H b = some o → relend cl H (upd (upd (strip cl H) t (.tup [x, y])) q (.lst (ps ++ [.ref t]))) b = some o := fun b o hb e => by
    by_cases hc : b ∈ cl.map (·.2)
    · rw [inR b hc]
      exact e
    · rw [outR b hc, upd_ne hb, upd_ne (ne_of_none e ht'), strip_out hc]
      exact e
  refine ⟨⟨keep, fun b xs e => keep b _ (fun z => by
    rw [z, hq] at e
    cases e) e⟩, fun b o e f => ?_, by rw [outR q qc, upd_same], by rw [outR t tc, upd_ne qt.symm, upd_same], ht'⟩
  by_cases hb : b = q
  · rw [hb, upd_same]
    rw [hb, hq] at e
    exact e
  · rw [upd_ne hb]
    exact keep b o hb e
/-! ### the order that writes down what it is asked -/
section
variable {P : Program} {w : World} {K : PySem.W.Frag} {mg : Str → Option Value} {base : Heap}
/-- the function at f, its code, its cells, the log at q -/
def AskLog (f q c' : Addr) (pm ctv : Value) (qn : Str) (params : Arguments) (body : Expr) (scope : Scope) (cl : List (Str × Addr)) (fr : List Str) (ws : List (Option V)) (l : Lg) (H : Hp) : Prop :=
  H f = some (Fz (PySem.W.kla_obj "<lambda>" qn params body scope cl pm c' ctv)) ∧ H c' = some (CodeO c' qn) ∧ ClosAt cl fr ws H ∧ ∃ qs, H q = some (.lst qs) ∧ LogAt H qs l
theorem codeO_fz {c : Addr} {q : Str} (ob : Obj) : CodeO c q ≠ Fz ob := fun z => by
  unfold CodeO at z
  cases z
def mkOrc {f q c' : Addr} {pm ctv : Value} {qn : Str} {params : Arguments} {body : Expr} {scope : Scope} {cl : List (Str × Addr)} {ps fr : List Str} {ws : List (Option V)} (ans : Lg → V → V → Int) (Dom : V → Hp → Prop) {t : TE}
    (S : NdefX.NScope (ps ++ fr) ps fr scope) (two : ps.length = 2) (hw : ws.length = fr.length)
    (hb : ∀ us : List Value, us.length = ps.length → bindArgs (PySem.W.kla_fn "<lambda>" qn params body scope cl pm (.ref c') ctv) ⟨us, []⟩ = pure (ps.zip us))
    (dom : ∀ {x : V} {H H' : Hp}, TK H H' → Dom x H → Dom x H')
    (B : ∀ (A : Around) (outer : List Env) (s : Shared) (H0 : Hp), Room 2 (A.deeper (NdefX.envF (lamNF qn params scope cl c') f s.heap.objs.size)) → PE (NdefX.ncx CX0 P w K mg base (ps ++ fr) (lamNF qn params scope cl c') f A outer s H0 E0).nox body t)
    (hq : ∀ (x y : V) (l : Lg) (qs : List V) (H : Hp) (Q : VK), H q = some (.lst qs) → LogAt H qs l → l.length < 100000 → Dom x H → Dom y H →
      (∀ a, H a = none → Q (.int (ans l x y)) (upd (upd H a (.tup [x, y])) q (.lst (qs ++ [.ref a])))) → t (some x :: some y :: ws) H Q) : Orc P w K mg base where
  f := f
  q := q
  ans := ans
  Log := AskLog f q c' pm ctv qn params body scope cl fr ws
  Dom := Dom
  isf := fun {l H} h => ⟨_, _, _, _, h.1⟩
  isq := fun {l H} h z => by
    obtain ⟨_, _, _, qs, e, _⟩ := h
    rw [z] at e
    cases e
  stay := fun {l H H'} s h => by
    obtain ⟨h1, h2, h3, qs, h4, h5⟩ := h
    exact ⟨s _ _ h1 (.inr True.intro), s _ _ h2 (.inr (by unfold CodeO; exact True.intro)), h3.stay s, qs, s _ _ h4 (.inl rfl), h5.tk s.tk⟩
  dom := dom
  run := by
    refine fnv_lam (ps := ps) (fr := fr) (N := ps ++ fr) (ws := ws) (pm := pm) (ctv := ctv) (c' := c') (q := qn) (params := params) (body := body) (scope := scope) (cl := cl) S hb (fun vs H Q h => ?_) fun A outer s H vs Q hr h => ⟨t, B A outer s _ hr, ?_⟩
    · obtain ⟨x, y, l, rfl, ⟨h1, h2, h3, _⟩, _⟩ := h
      exact ⟨two.symm, h1, h2, h3⟩
    · obtain ⟨x, y, l, rfl, ⟨h1, h2, h3, qs, h4, h5⟩, hl, dx, dy, hQ⟩ := h
      have qc := h3.out h4 lst_fz
      have hqs : strip cl H q = some (.lst qs) := by rw [strip_out qc]; exact h4
      have kS : TK H (strip cl H) := fun b xs e => by rw [strip_out (h3.out e tup_fz)]; exact e
      have es : NdefX.startF (ps ++ fr) [x, y] ws = some x :: some y :: ws := by
        unfold NdefX.startF
        rw [List.length_append, two, hw]
        simp
      rw [es]
      refine hq x y l qs (strip cl H) _ hqs (h5.tk kS) hl (dom kS dx) (dom kS dy) fun a ha hf => ?_
      obtain ⟨kb, st, e1, e2, e3⟩ := relend_ask h3 h4 ha hf
      have fq : f ≠ q := fun z => by
        rw [z, h4] at h1
        cases h1
      have cq : c' ≠ q := fun z => by
        rw [z, h4] at h2
        exact absurd (Option.some.inj h2).symm (by unfold CodeO; intro y; cases y)
      have cl3 : ClosAt cl fr ws (relend cl H (upd (upd (strip cl H) a (.tup [x, y])) q (.lst (qs ++ [.ref a])))) := by
        refine ⟨h3.len, fun b hb => ?_, h3.inj, fun i y e => ?_⟩
        · obtain ⟨o, v, e, r⟩ := h3.all b hb
          exact ⟨o, v, by rw [show relend cl H _ b = H b from if_pos hb]; exact e, r⟩
        · obtain ⟨c, hc, hv⟩ := h3.has i y e
          refine ⟨c, hc, fun v ev => ?_⟩
          obtain ⟨o, u, e4, r⟩ := hv v ev
          exact ⟨o, u, by rw [show relend cl H _ c = H c from if_pos (lookup_mem2 hc)]; exact e4, r⟩
      exact hQ _ kb ⟨kb.keep _ _ fq h1, kb.keep _ _ cq h2, cl3, _, e1, (h5.tk kb.tk).snoc e2⟩
end
end Ord

namespace Ord
open PySem PySem.Spec PyProof.Rows L2 LamX
theorem ps_dead {X : Cx} {st : Stmt} : PS X st (fun _ _ _ => False) := ⟨fun pins s σ H D I h => h.elim⟩
/-- a row that may be looked at as data -/
def Dat (K : PySem.W.Frag) (xs : List V) (H : Hp) : Prop := ∀ H', TK H H' → ∃ ds, DpAll K H' xs ds ∧ SeqAt.shaped (.list ds) = true
theorem Dat.tk {K : PySem.W.Frag} {xs : List V} {H H' : Hp} (h : Dat K xs H) (k : TK H H') : Dat K xs H' := fun H2 k2 => h H2 (k.trans k2)
theorem eqv_cons_nil (d : PyData) (ds : List PyData) : PyData.eqv (.list (d :: ds)) (.list []) = false := by
  rw [PyData.eqv, PyData.eqvAll]
/-- so may rows of its elements -/
def DatS (K : PySem.W.Frag) (xs : List V) (H : Hp) : Prop := ∀ ys, (∀ y ∈ ys, y ∈ xs) → Dat K ys H
theorem DatS.tk {K : PySem.W.Frag} {xs : List V} {H H' : Hp} (h : DatS K xs H) (k : TK H H') : DatS K xs H' := fun ys s => (h ys s).tk k
theorem DatS.of {K : PySem.W.Frag} {xs : List V} {H : Hp} {c : V → Int × Int} (h : Els c xs H) : DatS K xs H := fun ys s H' k => ⟨_, dp_els fun y hy => (h y (s y hy)).tk k, shaped_row c _⟩
theorem eqv_nil_iff {K : PySem.W.Frag} {H : Hp} {ys : List V} {ds : List PyData} (h : DpAll K H ys ds) : PyData.eqv (.list ds) (.list []) = decide (ys = []) := by
  cases h with
  | nil => rw [PyData.eqv, PyData.eqvAll]; simp
  | cons a b => rw [eqv_cons_nil]; simp
theorem cut_last {xs : List V} : cutV xs none (some (-1)) = xs.dropLast := by
  unfold cutV
  rw [HT.sIx_none, List.drop_zero, Nat.sub_zero]
  have e : HT.sIx xs.length xs.length (some (-1)) = xs.length - 1 := by
    unfold HT.sIx
    simp
    omega
  rw [e, List.dropLast_eq_take]
end Ord

set_option pp.deepTerms false
set_option pp.maxSteps 1500
namespace Ord
open PySem PySem.Spec PyProof.Rows L2 LamX
open Mir (Tr)
theorem nf_map {H : Hp} {m CM CN dx : Addr} {f : Addr} {v : V} (h : H m = some (.ins CM dx (mfl f v))) : ∀ dy k h l r i j, H m ≠ some (.ins CN dy (nfl k h l r i j)) := fun dy k g l r i j z => by
  rw [h] at z
  have e : mfl f v = nfl k g l r i j := by
    have := Option.some.inj z
    injection this
  have e2 := congrArg List.length e
  simp [mfl, nfl] at e2
/-- all but q and m stands -/
structure KB2 (q m : Addr) (H H' : Hp) : Prop where
  keep : ∀ b o, b ≠ q → b ≠ m → H b = some o → H' b = some o
  tk : TK H H'
theorem KB2.of_kb {q m : Addr} {H H' : Hp} (k : KB q H H') : KB2 q m H H' := ⟨fun b o n _ e => k.keep b o n e, k.tk⟩
theorem KB2.trans {q m : Addr} {H H1 H2 : Hp} (a : KB2 q m H H1) (b : KB2 q m H1 H2) : KB2 q m H H2 := ⟨fun c o n n2 e => b.keep c o n n2 (a.keep c o n n2 e), a.tk.trans b.tk⟩
theorem KB2.wr {q m : Addr} {H H' : Hp} {o u : HO} (k : KB2 q m H H') (e : H' m = some u) (nf : ¬ Fixed u) : KB2 q m H (upd H' m o) :=
  ⟨fun b y n n2 h => by rw [upd_ne n2]; exact k.keep b y n n2 h, k.tk.trans (TK.wr e nf)⟩
section
variable {P : Program} {w : World} {K : PySem.W.Frag} {mg : Str → Option Value} {base : Heap} {CN CM : Addr}
/-! ### Map -/
def N_Map___init__ : List Str := ["self", "order"]
theorem sc_Map___init__ : FnScope ["self", "order"] ["self", "order"] (defScope st_Map___init__) := ⟨rfl, rfl, rfl, by decide +kernel, rfl, by decide +kernel, by decide +kernel⟩
def spMapI (CM : Addr) : Sp := fun vs H Q _ => ∃ (p dx f : Addr), vs = [.ref p, .ref f] ∧ H p = some (.ins CM dx []) ∧ ∀ H', (∀ b o, b ≠ p → H b = some o → H' b = some o) → H' p = some (.ins CM dx (mfl f .non)) → Q .non H'
theorem ok_Map (d_Map : Di K mg CM "Map" "Map.__init__" st_Map___init__ ["self", "order"]) (TM : MapT K CM) : FnOk P w K mg base CX0 1 d_Map.f d_Map.fd ["self", "order"] (spMapI CM) := by
  refine d_Map.F.ok sc_Map___init__ (fun vs H Q E h => ?_) (fun cdv A outer s H vs Q E hr h => ?_)
  · obtain ⟨p, dx, f, rfl, _⟩ := h
    rfl
  · obtain ⟨p, dx, f, rfl, hp, hQ⟩ := h
    have nd := sc_Map___init__.nd
    refine ⟨_, (pss_cons (ps_fld (pv 0) (pv 1) rfl)
  (pss_one (ps_fld (pv 0) pe_non rfl))), ?_⟩
    refine ⟨_, rfl, _, rfl, p, CM, dx, _, rfl, hp, TM.cl, TM.no, by decide, ?_⟩
    refine ⟨_, rfl, p, CM, dx, _, rfl, upd_same, TM.cl, TM.nr, by simp only [putF, List.length_cons, List.length_nil]; decide, ?_⟩
    refine hQ _ (fun b o n e => by rw [upd_ne n, upd_ne n]; exact e) ?_
    rw [mfl_put0]
    exact upd_same
/-! ### size -/
def N_Map_size : List Str := ["self"]
theorem sc_Map_size : FnScope ["self"] ["self"] (defScope st_Map_size) := ⟨rfl, rfl, rfl, by decide +kernel, rfl, by decide +kernel, by decide +kernel⟩
def spSizeM (CM CN : Addr) : Sp := fun vs H Q _ => ∃ (q m dx f : Addr) (v : V) (t : Tr V), vs = [.ref m] ∧ H m = some (.ins CM dx (mfl f v)) ∧ TreeAt CN q H v t ∧ Q (.int (Mir.cnt t : Nat)) H
theorem ok_size_m (d_Map_size : Dm K CM "size" "Map.size" st_Map_size ["self"]) (d_many_of : Df K mg "many_of" st_many_of ["node"]) (TN : NodeT K CN) (TM : MapT K CM) : FnOk P w K mg base CX0 2 d_Map_size.f d_Map_size.fd ["self"] (spSizeM CM CN) := by
  have G_many_of : FnOk P w K mg base CX0 1 d_many_of.f d_many_of.fd ["node"] (spMany CN) := ok_many_of d_many_of TN
  refine d_Map_size.F.ok sc_Map_size (fun vs H Q E h => ?_) (fun cdv A outer s H vs Q E hr h => ?_)
  · obtain ⟨q, m, dx, f, v, t, rfl, _⟩ := h
    rfl
  · obtain ⟨q, m, dx, f, v, t, rfl, hm, ht, hQ⟩ := h
    have nd := sc_Map_size.nd
    refine ⟨_, (pss_one (ps_ret (pe_cd (d := d_many_of) G_many_of (hr.mono (by omega)) (pa_cons (pe_fld (pv 0) rfl) pa_nil)))), ?_⟩
    exact ⟨_, rfl, m, CM, dx, _, _, rfl, hm, TM.cl, TM.nr, mfl_root _ _, q, v, t, rfl, ht, hQ⟩
/-! ### put -/
def N_Map_put : List Str := ["self", "key", "held", "is_new"]
theorem sc_Map_put : FnScope ["self", "key", "held", "is_new"] ["self", "key", "held"] (defScope st_Map_put) := ⟨rfl, rfl, rfl, by decide +kernel, rfl, by decide +kernel, by decide +kernel⟩
def spPut (P : Program) (w : World) (K : PySem.W.Frag) (mg : Str → Option Value) (base : Heap) (CM CN : Addr) : Sp := fun vs H Q _ => ∃ (O : Orc P w K mg base) (m dx : Addr) (v key held : V) (t : Tr V) (l : Lg), vs = [.ref m, key, held] ∧
  H m = some (.ins CM dx (mfl O.f v)) ∧ m ≠ O.q ∧ TreeAt CN O.q H v t ∧ Mir.lev t ≤ 12 ∧ O.Log l H ∧ TDom O t H ∧ O.Dom key H ∧ l.length ≤ 80000 ∧
  ∀ H' v', KB2 O.q m H H' → H' m = some (.ins CM dx (mfl O.f v')) → TreeAt CN O.q H' v' (Mir.wk O.ans t key held l).1 → O.Log (Mir.wk O.ans t key held l).2.2 H' → Q (.bl (Mir.wk O.ans t key held l).2.1) H'
theorem ok_put (d_Map_put : Dm K CM "put" "Map.put" st_Map_put ["self", "key", "held"]) (d_with_key : Df K mg "with_key" st_with_key ["node", "key", "held", "order"]) (d_even : Df K mg "even" st_even ["key", "held", "left", "right"]) (d_lean : Df K mg "lean" st_lean ["node"]) (d_right_up : Df K mg "right_up" st_right_up ["node"]) (d_left_up : Df K mg "left_up" st_left_up ["node"]) (d_Node : Di K mg CN "Node" "Node.__init__" st_Node___init__ ["self", "key", "held", "left", "right"]) (d_level_of : Df K mg "level_of" st_level_of ["node"]) (d_many_of : Df K mg "many_of" st_many_of ["node"]) (TN : NodeT K CN) (TM : MapT K CM) (mMax : mg "max" = none) : FnOk P w K mg base CX0 19 d_Map_put.f d_Map_put.fd ["self", "key", "held"] (spPut P w K mg base CM CN) := by
  have G_with_key : FnOk P w K mg base CX0 18 d_with_key.f d_with_key.fd ["node", "key", "held", "order"] (spWk P w K mg base CN 12) := ok_with_key d_with_key d_even d_lean d_right_up d_left_up d_Node d_level_of d_many_of TN mMax 12
  refine d_Map_put.F.ok sc_Map_put (fun vs H Q E h => ?_) (fun cdv A outer s H vs Q E hr h => ?_)
  · obtain ⟨O, m, dx, v, key, held, t, l, rfl, _⟩ := h
    rfl
  · obtain ⟨O, m, dx, v, key, held, t, l, rfl, hm, mq, ht, hlv, hL, hD, hk, hc, hQ⟩ := h
    have nd := sc_Map_put.nd
    refine ⟨_, (pss_cons (ps_asg (pe_cd (d := d_with_key) G_with_key (hr.mono (by omega)) (pa_cons (pe_fld (pv 0) rfl) (pa_cons (pv 1) (pa_cons (pv 2) (pa_cons (pe_fld (pv 0) rfl) pa_nil))))) (pg_tup (by rfl) (pgs_cons (pg_attr (pv 0)) (pgs_cons (pg_name (i := 3) nd rfl (Or.inl rfl)) pgs_nil))))
  (pss_one (ps_ret (pv 3)))), ?_⟩
    refine ⟨_, rfl, m, CM, dx, _, _, rfl, hm, TM.cl, TM.nr, mfl_root _ _, _, rfl, _, rfl, _, rfl, m, CM, dx, _, _, rfl, hm, TM.cl, TM.no, mfl_order _ _, O, v, key, held, t, l, rfl, ht, hlv, hL, hD, hk, by omega, fun H1 tu v1 kb1 t1 htu hL1 => ?_⟩
    have hm1 := kb1.keep _ _ mq hm
    refine ⟨tu, _, rfl, SqT.of htu, rfl, _, _, rfl, _, rfl, m, CM, dx, _, rfl, hm1, TM.cl, TM.nr, by simp [mfl], _, _, rfl, rfl, ?_⟩
    refine ⟨_, rfl, ?_⟩
    rw [mfl_put]
    refine hQ _ v1 ((KB2.of_kb kb1).wr hm1 nf_ins) upd_same (t1.offk (nf_map hm1) fun b o n e => by rw [upd_ne n]; exact e) (O.wr hL1 hm1 nf_ins mq)
/-! ### at, where the place is there -/
def N_Map_at : List Str := ["self", "place", "node"]
theorem sc_Map_at : FnScope ["self", "place", "node"] ["self", "place"] (defScope st_Map_at) := ⟨rfl, rfl, rfl, by decide +kernel, rfl, by decide +kernel, by decide +kernel⟩
def spAt (CM CN : Addr) : Sp := fun vs H Q _ => ∃ (q m dx f : Addr) (v : V) (t : Tr V) (i : Nat), vs = [.ref m, .int (i : Int)] ∧ H m = some (.ins CM dx (mfl f v)) ∧ TreeAt CN q H v t ∧ i < Mir.cnt t ∧
  ∀ tu k g, H tu = none → (Mir.toL t)[i]? = some (k, g) → Q (.ref tu) (upd H tu (.tup [k, g]))
theorem ok_at (d_Map_at : Dm K CM "at" "Map.at" st_Map_at ["self", "place"]) (d_Map_size : Dm K CM "size" "Map.size" st_Map_size ["self"]) (d_many_of : Df K mg "many_of" st_many_of ["node"]) (TN : NodeT K CN) (TM : MapT K CM) : FnOk P w K mg base CX0 3 d_Map_at.f d_Map_at.fd ["self", "place"] (spAt CM CN) := by
  have G_many_of : FnOk P w K mg base CX0 1 d_many_of.f d_many_of.fd ["node"] (spMany CN) := ok_many_of d_many_of TN
  have G_Map_size : FnOk P w K mg base CX0 2 d_Map_size.f d_Map_size.fd ["self"] (spSizeM CM CN) := ok_size_m d_Map_size d_many_of TN TM
  refine d_Map_at.F.ok sc_Map_at (fun vs H Q E h => ?_) (fun cdv A outer s H vs Q E hr h => ?_)
  · obtain ⟨q, m, dx, f, v, t, i, rfl, _⟩ := h
    rfl
  · obtain ⟨q, m, dx, f, v, t, i, rfl, hm, ht, hi, hQ⟩ := h
    have nd := sc_Map_at.nd
    refine ⟨_, (pss_cons (ps_if (pt_not (pt_chain op_le op_lt pe_int (pv 1) (pe_md0 (d := d_Map_size) TM.cl G_Map_size (hr.mono (by omega)) (pv 0))))
    (pss_one ps_dead)
    pss_nil)
  (pss_cons (ps_set (i := 2) nd rfl (Or.inl rfl) (pe_fld (pv 0) rfl))
  (pss_cons (ps_while PassesOwn.never (pt_cmpR op_ne (pe_cd (d := d_many_of) G_many_of (hr.mono (by omega)) (pa_cons (pe_fld (pv 2) rfl) pa_nil)) (pv 1) (nomark _))
    (pss_one (ps_if (pt_cmpR op_lt (pv 1) (pe_cd (d := d_many_of) G_many_of (hr.mono (by omega)) (pa_cons (pe_fld (pv 2) rfl) pa_nil)) (nomark _))
    (pss_one (ps_set (i := 2) nd rfl (Or.inl rfl) (pe_fld (pv 2) rfl)))
    (pss_cons (ps_set (i := 1) nd rfl (Or.inl rfl) (pe_op op_subE (pe_op op_subE (pv 1) (pe_cd (d := d_many_of) G_many_of (hr.mono (by omega)) (pa_cons (pe_fld (pv 2) rfl) pa_nil))) pe_int))
  (pss_one (ps_set (i := 2) nd rfl (Or.inl rfl) (pe_fld (pv 2) rfl)))))))
  (pss_one (ps_ret (pe_tup (pa_cons (pe_fld (pv 2) rfl) (pa_cons (pe_fld (pv 2) rfl) pa_nil)))))))), ?_⟩
    refine ⟨_, rfl, _, _, rfl, rfl, _, rfl, ?_⟩
    refine iteD (fun _ => ?_) (fun h => absurd (show (0 : Int) ≤ (i : Int) by omega) h)
    refine ⟨_, rfl, m, dx, _, rfl, hm, mfl_no _ _ (by decide +kernel) (by decide +kernel), q, m, dx, f, v, t, rfl, hm, ht, _, _, rfl, rfl, _, rfl, ?_⟩
    rw [show decide ((i : Int) < ((Mir.cnt t : Nat) : Int)) = true from decide_eq_true (by omega)]
    refine iteF ?_
    refine ⟨_, rfl, m, CM, dx, _, _, rfl, hm, TM.cl, TM.nr, mfl_root _ _, ?_⟩
    refine ⟨fun mu σ H' => ∃ (v' : V) (t' : Tr V) (j : Nat), σ = [some (.ref m), some (.int (j : Nat)), some v'] ∧ H' = H ∧ mu = Mir.lev t' ∧ TreeAt CN q H v' t' ∧ j < Mir.cnt t' ∧ (Mir.toL t)[i]? = (Mir.toL t')[j]?, ⟨_, v, t, i, rfl, rfl, rfl, ht, hi, rfl⟩, ?_⟩
    rintro mu σ H' ⟨v', t', j, rfl, rfl, rfl, ht', hj, he⟩
    cases t' with
    | lf => simp [Mir.cnt] at hj
    | nd k g l r =>
      obtain ⟨a, dy, lv, rv, rfl, aq, ha, h1, h2⟩ := ht'
      have hj' : j < 1 + Mir.cnt l + Mir.cnt r := hj
      rw [Mir.toL_at] at he
      refine ⟨_, rfl, a, CN, dy, _, _, rfl, ha, TN.cl, TN.nl, nfl_left _ _ _ _ _ _, q, lv, l, rfl, h1, _, rfl, rfl, _, rfl, ?_⟩
      have eI : decide (V.int ((Mir.cnt l : Nat) : Int) = V.int ((j : Nat) : Int)) = decide (Mir.cnt l = j) := by
        by_cases e : Mir.cnt l = j
        · rw [e, decide_eq_true rfl, decide_eq_true rfl]
        · rw [decide_eq_false e, decide_eq_false fun z => e (by have := V.int.inj z; omega)]
      rw [eI]
      by_cases ej : Mir.cnt l = j
      · rw [decide_eq_true ej]
        refine iteF ?_
        rw [if_neg (by omega), if_pos ej.symm] at he
        refine ⟨_, rfl, a, CN, dy, _, _, rfl, ha, TN.cl, TN.nk, nfl_key _ _ _ _ _ _, _, rfl, a, CN, dy, _, _, rfl, ha, TN.cl, TN.nh, nfl_held _ _ _ _ _ _, by show 2 ≤ sizeLine; decide, fun tu ntu => ?_⟩
        exact hQ tu k g ntu he
      · rw [decide_eq_false ej]
        refine iteT ⟨_, fun _ _ h => h, ?_⟩
        refine ⟨_, rfl, _, rfl, a, CN, dy, _, _, rfl, ha, TN.cl, TN.nl, nfl_left _ _ _ _ _ _, q, lv, l, rfl, h1, _, _, rfl, rfl, _, rfl, ?_⟩
        refine iteD (fun c => ?_) (fun c => ?_)
        · have c' : (j : Int) < (Mir.cnt l : Int) := c
          rw [if_pos (by omega)] at he
          refine ⟨_, rfl, a, CN, dy, _, _, rfl, ha, TN.cl, TN.nl, nfl_left _ _ _ _ _ _, ?_⟩
          exact ⟨_, by show Mir.lev l < 1 + max (Mir.lev l) (Mir.lev r); omega, lv, l, j, rfl, rfl, rfl, h1, by omega, he⟩
        · have c' : ¬ (j : Int) < (Mir.cnt l : Int) := c
          rw [if_neg (by omega), if_neg (by omega)] at he
          refine ⟨_, rfl, _, rfl, a, CN, dy, _, _, rfl, ha, TN.cl, TN.nl, nfl_left _ _ _ _ _ _, q, lv, l, rfl, h1, _, _, ((j - Mir.cnt l : Nat) : Int), rfl, rfl, (by show ((j - Mir.cnt l : Nat) : Int) = (j : Int) - (Mir.cnt l : Int); omega), _, _, ((j - Mir.cnt l - 1 : Nat) : Int), rfl, rfl, (by show ((j - Mir.cnt l - 1 : Nat) : Int) = ((j - Mir.cnt l : Nat) : Int) - 1; omega), ?_⟩
          refine ⟨_, rfl, a, CN, dy, _, _, rfl, ha, TN.cl, TN.nr, nfl_right _ _ _ _ _ _, ?_⟩
          exact ⟨_, by show Mir.lev r < 1 + max (Mir.lev l) (Mir.lev r); omega, rv, r, j - Mir.cnt l - 1, rfl, rfl, rfl, h2, by omega, he⟩
end
end Ord

set_option pp.deepTerms false
set_option pp.maxSteps 1500
namespace Ord
open PySem PySem.Spec PyProof.Rows L2
open Mir (Tr)
/-- an own class of exceptions -/
structure ExcT (K : PySem.W.Frag) (mg : Str → Option Value) (x : Str) (C : Addr) : Prop where
  g : mg x = some (.ref C)
  xP : PySem.W.excIn K C [.type "ValueError", .type "Exception", .type "BaseException", .type "object"] "ValueError.__new__" = true
  kP : PySem.W.keepIn K (.ref C) = true
  bP : PySem.W.subIn K (.ref C) (.type "BaseException") = some true
  tP : PySem.W.typeIn K (.ref C) = some (.type "type")
  eP : PySem.W.exmOne K (.ref C) (.ref C) = some true
section
variable {X : Cx} {CX : CXT} {k : Nat} {C : Addr} {m qual x : Str} {st : Stmt} {ps : List Str} {sp : Sp} {p pos apos : Pos} {e o : Expr} {es : List Expr} {t : TA} {ta : TE} {E : L2.St → XK}
def tMethAt (C : Addr) (m : Str) (sp : Sp) (E : L2.St → XK) (ta : TE) (t : TA) : TE := fun σ H Q => ta σ H fun x H1 => ∃ a dx fs, x = .ref a ∧ H1 a = some (.ins C dx fs) ∧ fs.lookup m = none ∧ t σ H1 fun vs H2 => sp (x :: vs) H2 Q (E σ)
theorem pe_mdS {pl : Sem Bool} {d : Dm X.K C m qual st ps} (cl : Cls X.K C) (G : FnOk X.prog X.w X.K X.mg X.base CX k d.f d.fd ps sp) (hr : Room k X.A) (hx : ∀ σ, PassesAt CX X σ (E σ)) (ho : PE X o ta) (ha : PA X (e :: es) t)
    (hst : starEach (e :: es) X.env = (false, eval e X.env) :: starEach es X.env := by rfl) (hpl : (backTo pos (starEach es X.env)).any (·.1) = false := by rfl)
    (ht : eval (.Call (.Attribute o m apos) (e :: es) [] pos) X.env = (do
      let ov ← eval o X.env
      standAt apos.atName
      let (f, first) ← holding [ov] (getMethod ov m pl)
      callWith pos f first (backTo pos (starEach (e :: es) X.env)) (backToKw pos (keywordEach [] X.env))) := by rfl) : PE X (.Call (.Attribute o m apos) (e :: es) [] pos) (tMethAt C m sp E ta t) := by
  refine ⟨fun pins s σ H Q I h => ?_⟩
  refine PySem.W.methodCall_KW (pl := pl) (thn (ho.run pins s σ H _ I h) fun u s1 ⟨x, H1, I1, rx, a, dx, fs, ex, ea, l, q⟩ => ?_) ht
  subst ex
  obtain rfl : u = Value.ref a := rx
  refine getmeth_ok I1 ea cl d.me l ?_
  refine PySem.W.callWith_K (first := [.ref a]) (h₀ := X.base) I.ok.mod.kin d.me.kp (thn (ha.run pos pins s1 σ H1 _ I1 q) fun us s2 ⟨vs, H2, I2, r, q2⟩ => ⟨I2.kIn, ?_⟩) hst hpl
  exact run_fnS (us := .ref a :: us) (vs := .ref a :: vs) G hr d.b (hx σ) I2 (.cons rfl r) q2
end
/-- the node that was found -/
def NodeOf (CN : Addr) (H : Hp) (nv : V) : Option (V × V) → Prop
  | none => nv = .non
  | some (k, g) => ∃ (a dy : Addr) (lv rv : V) (i j : Nat), nv = .ref a ∧ H a = some (.ins CN dy (nfl k g lv rv i j))
section
variable {P : Program} {w : World} {K : PySem.W.Frag} {mg : Str → Option Value} {base : Heap} {CN CM CE : Addr}
/-! ### found -/
def N_Map_found : List Str := ["self", "key", "node", "passed", "side"]
theorem sc_Map_found : FnScope ["self", "key", "node", "passed", "side"] ["self", "key"] (defScope st_Map_found) := ⟨rfl, rfl, rfl, by decide +kernel, rfl, by decide +kernel, by decide +kernel⟩
def spFound (P : Program) (w : World) (K : PySem.W.Frag) (mg : Str → Option Value) (base : Heap) (CM CN : Addr) : Sp := fun vs H Q _ => ∃ (O : Orc P w K mg base) (m dx : Addr) (v key : V) (t : Tr V) (l : Lg), vs = [.ref m, key] ∧
  H m = some (.ins CM dx (mfl O.f v)) ∧ m ≠ O.q ∧ TreeAt CN O.q H v t ∧ O.Log l H ∧ TDom O t H ∧ O.Dom key H ∧ l.length + Mir.lev t ≤ 90000 ∧
  ∀ H' tu nv, KB O.q H H' → H tu = none → H' tu = some (.tup [nv, .int ((Mir.fnd O.ans t key 0 l).2.1 : Nat)]) → O.Log (Mir.fnd O.ans t key 0 l).2.2 H' → NodeOf CN H' nv (Mir.fnd O.ans t key 0 l).1 → Q (.ref tu) H'
theorem ok_found (d_Map_found : Dm K CM "found" "Map.found" st_Map_found ["self", "key"]) (d_many_of : Df K mg "many_of" st_many_of ["node"]) (TN : NodeT K CN) (TM : MapT K CM) : FnOk P w K mg base CX0 4 d_Map_found.f d_Map_found.fd ["self", "key"] (spFound P w K mg base CM CN) := by
  have G_many_of : FnOk P w K mg base CX0 1 d_many_of.f d_many_of.fd ["node"] (spMany CN) := ok_many_of d_many_of TN
  refine d_Map_found.F.ok sc_Map_found (fun vs H Q E h => ?_) (fun cdv A outer s H vs Q E hr h => ?_)
  · obtain ⟨O, m, dx, v, key, t, l, rfl, _⟩ := h
    rfl
  · obtain ⟨O, m, dx, v, key, t, l, rfl, hm, mq, ht, hL, hD, hk, hc, hQ⟩ := h
    have nd := sc_Map_found.nd
    refine ⟨_, (pss_cons (ps_set (i := 2) nd rfl (Or.inl rfl) (pe_fld (pv 0) rfl))
  (pss_cons (ps_set (i := 3) nd rfl (Or.inl rfl) pe_int)
  (pss_cons (ps_while PassesOwn.never (pt_cmpR op_notN (pv 2) pe_non (nomark _))
    (pss_cons (ps_set (i := 4) nd rfl (Or.inl rfl) (pe_callF (pv 0) O.run (hr.mono (by omega)) (pa_cons (pe_fld (pv 2) rfl) (pa_cons (pv 1) pa_nil))))
  (pss_cons (ps_if (pt_cmpR op_eq (pv 4) pe_int (nomark _))
    (pss_one (ps_ret (pe_tup (pa_cons (pv 2) (pa_cons (pe_op op_addE (pv 3) (pe_cd (d := d_many_of) G_many_of (hr.mono (by omega)) (pa_cons (pe_fld (pv 2) rfl) pa_nil))) pa_nil)))))
    pss_nil)
  (pss_one (ps_if (pt_cmpR op_gt (pv 4) pe_int (nomark _))
    (pss_one (ps_set (i := 2) nd rfl (Or.inl rfl) (pe_fld (pv 2) rfl)))
    (pss_cons (ps_set (i := 3) nd rfl (Or.inl rfl) (pe_op op_addE (pe_op op_addE (pv 3) (pe_cd (d := d_many_of) G_many_of (hr.mono (by omega)) (pa_cons (pe_fld (pv 2) rfl) pa_nil))) pe_int))
  (pss_one (ps_set (i := 2) nd rfl (Or.inl rfl) (pe_fld (pv 2) rfl)))))))))
  (pss_one (ps_ret (pe_tup (pa_cons pe_non (pa_cons (pv 3) pa_nil)))))))), ?_⟩
    refine ⟨_, rfl, m, CM, dx, _, _, rfl, hm, TM.cl, TM.nr, mfl_root _ _, ?_⟩
    refine ⟨fun mu σ H' => ∃ (v' : V) (t' : Tr V) (p : Nat) (l' : Lg) (v4 : Option V), σ = [some (.ref m), some key, some v', some (.int (p : Nat)), v4] ∧ mu = Mir.lev t' ∧ KB O.q H H' ∧ TreeAt CN O.q H' v' t' ∧ O.Log l' H' ∧ TDom O t' H' ∧ l'.length + Mir.lev t' ≤ l.length + Mir.lev t ∧ Mir.fnd O.ans t key 0 l = Mir.fnd O.ans t' key p l',
      ⟨_, v, t, 0, l, none, rfl, rfl, KB.refl _ _, ht, hL, hD, Nat.le_refl _, rfl⟩, ?_⟩
    rintro mu σ H1 ⟨v', t', p, l', v4, rfl, rfl, kb, ht', hL', hD', hl', he⟩
    cases t' with
    | lf =>
      have he : Mir.fnd O.ans t key 0 l = (none, p, l') := he
      rw [he] at hQ
      obtain rfl : v' = .non := ht'
      refine ⟨_, rfl, rfl, _, rfl, ?_⟩
      rw [non_non]
      refine iteF ?_
      refine ⟨_, rfl, by show 2 ≤ sizeLine; decide, fun tu ntu => ?_⟩
      exact hQ _ tu .non (kb.trans (KB.new ntu)) (kb.free (Orc.nq hL' ntu) ntu) upd_same (O.stay (Stay.new ntu) hL') rfl
    | nd k g l2 r2 =>
      obtain ⟨a, dy, lv, rv, rfl, aq, ha, h1, h2⟩ := ht'
      have hl2 : l'.length + (1 + max (Mir.lev l2) (Mir.lev r2)) ≤ l.length + Mir.lev t := hl'
      refine ⟨_, rfl, rfl, _, rfl, ?_⟩
      rw [non_ref]
      refine iteT ⟨_, fun _ _ h => h, ?_⟩
      have hm1 := kb.keep _ _ mq hm
      refine ⟨_, rfl, m, CM, dx, _, rfl, hm1, TM.cl, TM.no, mfl_order _ _, O.isf hL', _, rfl, a, CN, dy, _, _, rfl, ha, TN.cl, TN.nk, nfl_key _ _ _ _ _ _, _, rfl, O.isf hL', k, key, l', rfl, hL', by omega, hD'.k, O.dom kb.tk hk, fun H2 kb2 hL2 => ?_⟩
      have kb3 := kb.trans kb2
      have ha2 := kb2.keep _ _ aq ha
      have h12 := h1.kb kb2
      have h22 := h2.kb kb2
      obtain ⟨sd, esd⟩ : ∃ sd, sd = O.ans l' k key := ⟨_, rfl⟩
      have wk0 : Mir.fnd O.ans (.nd k g l2 r2) key p l' = if sd = 0 then (some (k, g), p + Mir.cnt l2, l' ++ [(k, key)]) else if 0 < sd then Mir.fnd O.ans l2 key p (l' ++ [(k, key)]) else Mir.fnd O.ans r2 key (p + Mir.cnt l2 + 1) (l' ++ [(k, key)]) := by
        rw [esd]
        rfl
      have he := he.trans wk0
      rw [← esd]
      clear wk0
      refine ⟨_, rfl, rfl, _, rfl, iteI (fun c1 => ?_) (fun c1 => ?_)⟩
      · rw [if_pos c1] at he
        rw [he] at hQ
        refine ⟨_, rfl, _, rfl, _, rfl, a, CN, dy, _, _, rfl, ha2, TN.cl, TN.nl, nfl_left _ _ _ _ _ _, O.q, lv, l2, rfl, h12, _, _, ((p + Mir.cnt l2 : Nat) : Int), rfl, rfl, (by show ((p + Mir.cnt l2 : Nat) : Int) = (p : Int) + (Mir.cnt l2 : Int); omega), by show 2 ≤ sizeLine; decide, fun tu ntu => ?_⟩
        refine hQ _ tu (.ref a) (kb3.trans (KB.new ntu)) (kb3.free (Orc.nq hL2 ntu) ntu) upd_same (O.stay (Stay.new ntu) hL2) ⟨a, dy, lv, rv, _, _, rfl, kn ntu ha2⟩
      · rw [if_neg c1] at he
        refine ⟨_, rfl, _, _, rfl, rfl, _, rfl, ?_⟩
        refine iteD (fun c2 => ?_) (fun c2 => ?_)
        · have c2' : 0 < sd := c2
          rw [if_pos c2'] at he
          refine ⟨_, rfl, a, CN, dy, _, _, rfl, ha2, TN.cl, TN.nl, nfl_left _ _ _ _ _ _, ?_⟩
          exact ⟨_, by show Mir.lev l2 < 1 + max (Mir.lev l2) (Mir.lev r2); omega, lv, l2, p, _, _, rfl, rfl, kb3, h12, hL2, (hD'.l).tk kb2.tk, by rw [List.length_append, List.length_singleton]; omega, he⟩
        · have c2' : ¬ 0 < sd := c2
          rw [if_neg c2'] at he
          refine ⟨_, rfl, _, rfl, a, CN, dy, _, _, rfl, ha2, TN.cl, TN.nl, nfl_left _ _ _ _ _ _, O.q, lv, l2, rfl, h12, _, _, ((p + Mir.cnt l2 : Nat) : Int), rfl, rfl, (by show ((p + Mir.cnt l2 : Nat) : Int) = (p : Int) + (Mir.cnt l2 : Int); omega), _, _, ((p + Mir.cnt l2 + 1 : Nat) : Int), rfl, rfl, (by show ((p + Mir.cnt l2 + 1 : Nat) : Int) = ((p + Mir.cnt l2 : Nat) : Int) + 1; omega), ?_⟩
          refine ⟨_, rfl, a, CN, dy, _, _, rfl, ha2, TN.cl, TN.nr, nfl_right _ _ _ _ _ _, ?_⟩
          exact ⟨_, by show Mir.lev r2 < 1 + max (Mir.lev l2) (Mir.lev r2); omega, rv, r2, p + Mir.cnt l2 + 1, _, _, rfl, rfl, kb3, h22, hL2, (hD'.r).tk kb2.tk, by rw [List.length_append, List.length_singleton]; omega, he⟩
/-! ### get, where the key is there -/
def N_Map_get : List Str := ["self", "key", "node", "passed"]
theorem sc_Map_get : FnScope ["self", "key", "node", "passed"] ["self", "key"] (defScope st_Map_get) := ⟨rfl, rfl, rfl, by decide +kernel, rfl, by decide +kernel, by decide +kernel⟩
def spGet (P : Program) (w : World) (K : PySem.W.Frag) (mg : Str → Option Value) (base : Heap) (CM CN : Addr) : Sp := fun vs H Q _ => ∃ (O : Orc P w K mg base) (m dx : Addr) (v key k g : V) (t : Tr V) (l : Lg), vs = [.ref m, key] ∧
  H m = some (.ins CM dx (mfl O.f v)) ∧ m ≠ O.q ∧ TreeAt CN O.q H v t ∧ O.Log l H ∧ TDom O t H ∧ O.Dom key H ∧ l.length + Mir.lev t ≤ 90000 ∧ (Mir.fnd O.ans t key 0 l).1 = some (k, g) ∧
  ∀ H', KB O.q H H' → O.Log (Mir.fnd O.ans t key 0 l).2.2 H' → Q g H'
theorem ok_get (d_Map_get : Dm K CM "get" "Map.get" st_Map_get ["self", "key"]) (d_Map_found : Dm K CM "found" "Map.found" st_Map_found ["self", "key"]) (d_many_of : Df K mg "many_of" st_many_of ["node"]) (TN : NodeT K CN) (TM : MapT K CM) : FnOk P w K mg base CX0 5 d_Map_get.f d_Map_get.fd ["self", "key"] (spGet P w K mg base CM CN) := by
  have G_Map_found : FnOk P w K mg base CX0 4 d_Map_found.f d_Map_found.fd ["self", "key"] (spFound P w K mg base CM CN) := ok_found d_Map_found d_many_of TN TM
  refine d_Map_get.F.ok sc_Map_get (fun vs H Q E h => ?_) (fun cdv A outer s H vs Q E hr h => ?_)
  · obtain ⟨O, m, dx, v, key, k, g, t, l, rfl, _⟩ := h
    rfl
  · obtain ⟨O, m, dx, v, key, k, g, t, l, rfl, hm, mq, ht, hL, hD, hk, hc, hf, hQ⟩ := h
    have nd := sc_Map_get.nd
    refine ⟨_, (pss_cons (ps_asg (pe_md (d := d_Map_found) TM.cl G_Map_found (hr.mono (by omega)) (pv 0) (pa_cons (pv 1) pa_nil)) (pg_tup (by rfl) (pgs_cons (pg_name (i := 2) nd rfl (Or.inl rfl)) (pgs_cons (pg_name (i := 3) nd rfl (Or.inl rfl)) pgs_nil))))
  (pss_cons (ps_if (pt_cmpR op_isN (pv 2) pe_non (nomark _))
    (pss_one ps_dead)
    pss_nil)
  (pss_one (ps_ret (pe_fld (pv 2) rfl))))), ?_⟩
    refine ⟨_, rfl, m, dx, _, rfl, hm, mfl_no _ _ (by decide +kernel) (by decide +kernel), _, rfl, O, m, dx, v, key, t, l, rfl, hm, mq, ht, hL, hD, hk, hc, fun H1 tu nv kb ntu htu hL1 hn => ?_⟩
    rw [hf] at hn
    obtain ⟨a, dy, lv, rv, i, j, rfl, ha⟩ := hn
    refine ⟨tu, _, rfl, SqT.of htu, rfl, _, _, rfl, _, _, rfl, rfl, ?_⟩
    refine ⟨_, rfl, rfl, _, rfl, ?_⟩
    rw [non_ref]
    refine iteF ?_
    exact ⟨_, rfl, a, CN, dy, _, _, rfl, ha, TN.cl, TN.nh, nfl_held _ _ _ _ _ _, hQ H1 kb hL1⟩
/-! ### get, where it isn't -/
def spGetX (P : Program) (w : World) (K : PySem.W.Frag) (mg : Str → Option Value) (base : Heap) (CM CN CE : Addr) : Sp := fun vs H _ E => ∃ (O : Orc P w K mg base) (m dx : Addr) (v key : V) (t : Tr V) (l : Lg), vs = [.ref m, key] ∧
  H m = some (.ins CM dx (mfl O.f v)) ∧ m ≠ O.q ∧ TreeAt CN O.q H v t ∧ O.Log l H ∧ TDom O t H ∧ O.Dom key H ∧ l.length + Mir.lev t ≤ 90000 ∧ (Mir.fnd O.ans t key 0 l).1 = none ∧
  ∀ H', KB O.q H H' → O.Log (Mir.fnd O.ans t key 0 l).2.2 H' → E (.ref CE) none H'
theorem ok_getX (d_Map_get : Dm K CM "get" "Map.get" st_Map_get ["self", "key"]) (d_Map_found : Dm K CM "found" "Map.found" st_Map_found ["self", "key"]) (d_many_of : Df K mg "many_of" st_many_of ["node"]) (TN : NodeT K CN) (TM : MapT K CM) (TE : ExcT K mg "NoElement" CE) : FnOk P w K mg base (L2.CX P w) 5 d_Map_get.f d_Map_get.fd ["self", "key"] (spGetX P w K mg base CM CN CE) := by
  have G_Map_found : FnOk P w K mg base CX0 4 d_Map_found.f d_Map_found.fd ["self", "key"] (spFound P w K mg base CM CN) := ok_found d_Map_found d_many_of TN TM
  refine d_Map_get.F.okX sc_Map_get (fun vs H Q E h => ?_) (fun cdv A outer s H vs Q E hr h => ?_)
  · obtain ⟨O, m, dx, v, key, t, l, rfl, _⟩ := h
    rfl
  · obtain ⟨O, m, dx, v, key, t, l, rfl, hm, mq, ht, hL, hD, hk, hc, hf, hQ⟩ := h
    have nd := sc_Map_get.nd
    refine ⟨_, (pss_cons (ps_asg (pe_md (d := d_Map_found) TM.cl G_Map_found (hr.mono (by omega)) (pv 0) (pa_cons (pv 1) pa_nil)) (pg_tup (by rfl) (pgs_cons (pg_name (i := 2) nd rfl (Or.inl rfl)) (pgs_cons (pg_name (i := 3) nd rfl (Or.inl rfl)) pgs_nil))))
  (pss_cons (ps_if (pt_cmpR op_isN (pv 2) pe_non (nomark _))
    (pss_one (ps_raise rfl (takes_of rfl rfl rfl rfl) (pmk_own PySem.F.excBase_ValueError TE.xP TE.g TE.kP (raises_own TE.bP TE.tP) rfl)))
    pss_nil)
  (PSs.nox (pss_one (ps_ret (pe_fld (pv 2) rfl)))))), ?_⟩
    refine ⟨_, rfl, m, dx, _, rfl, hm, mfl_no _ _ (by decide +kernel) (by decide +kernel), _, rfl, O, m, dx, v, key, t, l, rfl, hm, mq, ht, hL, hD, hk, hc, fun H1 tu nv kb ntu htu hL1 hn => ?_⟩
    rw [hf] at hn
    obtain rfl : nv = .non := hn
    refine ⟨tu, _, rfl, SqT.of htu, rfl, _, _, rfl, _, _, rfl, rfl, ?_⟩
    refine ⟨_, rfl, rfl, _, rfl, ?_⟩
    rw [non_non]
    refine iteT ?_
    exact hQ H1 kb hL1
end
end Ord

set_option pp.deepTerms false
set_option pp.maxSteps 1500
/-! own exceptions made and looked at in one breath: str(X(e)), isinstance(X(e), Y) -/
namespace Ord
open PySem PySem.Spec PyProof.Rows L2
theorem pss_dead {X : Cx} {st : List Stmt} : PSs X st (fun _ _ _ => False) := ⟨fun pins s σ H D I h => h.elim⟩
section
variable {X : Cx} {C : Addr} {bmB : List Value} {B newId initId : String} {x : Str} {e : Expr} {ta : TE} {p pos p0 pos0 : Pos}
/-- an own exception is made: what the heap has then -/
theorem exc_made {pins : List (Addr × Obj)} {s : Shared} {σ : L2.St} {H : Hp} {Q : Value → Shared → Prop} {E : Value → Shared → Prop} (F : ExcBaseFacts B newId initId bmB) (q : PySem.W.excIn X.K C bmB newId = true) (gC : X.mg x = some (.ref C)) (kC : PySem.W.keepIn X.K (.ref C) = true) (hg : Gl X x)
    (he : PE X e ta) (I : Inv X pins σ H s) {Kc : VK} (h : ta σ H Kc) (hq : ∀ v H1, Kc v H1 → ∀ (s1 : Shared) (u : Value) (h' : Heap) (a : Addr), Inv X pins σ H1 s1 → RelV v u → Heap.MadeExcOf s1.heap h' a (.ref C) [u] → Q (.ref a) { s1 with heap := h' })
    (hs : starEach [e] X.env = (false, eval e X.env) :: starEach [] X.env := by rfl) (hdb : (x == ("__debug__" : Str)) = false := by decide) (hE : ∀ v s, X.xe v s → E v s) :
    wpAny (model X.prog X.w) X.A (eval (.Call (.Name x p) [e] [] pos) X.env) Q E s := by
  refine wpAny_Call_Name_kw (ld_glob I hg gC ?_ hdb)
  refine PySem.W.callWith_K (h₀ := X.base) I.ok.mod.kin kC ?_ hs (by rfl)
  rw [hs]
  show wpAny _ _ (spliced ((false, eval e X.env) :: backTo pos (starEach [] X.env))) _ _ s
  refine Calls.spliced_cons (wpAny_mono (he.run pins s σ H _ I h) (fun u s1 ⟨v, H1, I1, r1, q1⟩ => ?_) hE)
  refine Calls.spliced_nil ⟨I1.kIn, ?_⟩
  show wpAny _ _ (call (.ref C) [u]) _ _ _
  obtain ⟨bm, N, nm, qn, bs, hdct, sn, sub, ab, col, dd, k0, k1, k2, k3, k5, mN, hC, hN, hni, T⟩ := exc_obj I1.kIn q
  refine wpAny_call_exc_subT F T hC hN hni (fun h' a hm => ?_) (by show 1 ≤ sizeLine; rw [sizeLine_eq]; omega)
  exact hq v H1 q1 s1 u h' a I1 r1 hm
theorem pe_strX (F : ExcBaseFacts B newId initId bmB) (q : PySem.W.excIn X.K C bmB newId = true) (gC : X.mg x = some (.ref C)) (kC : PySem.W.keepIn X.K (.ref C) = true) (hgx : Gl X x) (he : PE X e ta) (hg : Gl X "str") (hm : X.mg "str" = none)
    (hs : PySem.W.findIn X.K (.ref C) "__str__" = some (some (.builtin "BaseException.__str__"))) (hB : PySem.W.subIn X.K (.ref C) (.type "BaseException") = some true) (hu : X.A.units + 2 < cLine)
    (hse : starEach [e] X.env = (false, eval e X.env) :: starEach [] X.env := by rfl) (hso : starEach [.Call (.Name x p) [e] [] pos] X.env = (false, eval (.Call (.Name x p) [e] [] pos) X.env) :: starEach [] X.env := by rfl) (hdb : (x == ("__debug__" : Str)) = false := by decide) :
    PE X (.Call (.Name "str" p0) [.Call (.Name x p) [e] [] pos] [] pos0) (fun σ H Q => ta σ H fun v H1 => ∃ z, v = .str z ∧ Q (.str z) H1) := by
  refine ⟨fun pins s σ H Q I h => ?_⟩
  refine wpAny_Call_Name_kw (ld_blt (u := .type "str") I hg hm (by decide +kernel) ?_ (by decide) (by decide))
  refine PyProof.Rows.callWith_type1 ?_ hso (by rfl)
  rw [hso]
  show wpAny _ _ (spliced ((false, eval (.Call (.Name x p) [e] [] pos) X.env) :: backTo pos0 (starEach [] X.env))) _ _ s
  refine Calls.spliced_cons (exc_made F q gC kC hgx he I h (fun v H1 ⟨z, ez, qz⟩ s1 u h' a I1 r1 hm => ?_) hse hdb (fun _ _ z => z))
  subst ez
  obtain ⟨tk, rfl⟩ := r1
  refine Calls.spliced_nil ?_
  obtain ⟨t, h1, h2, h3⟩ := hm.there
  have J : Inv X pins σ H1 { s1 with heap := h' } := I1.kept hm.keeps
  refine PySem.P.str_of_C_one hu ⟨J.kIn, _, _, h1, rfl, rfl, rfl⟩ ?_ hs hB ⟨.str z, H1, J, ⟨tk, rfl⟩, qz⟩
  exact ⟨_, _, h3, rfl, rfl⟩
/-- isinstance(X(e), Y), Y a class of the program -/
theorem pe_isX {y : Str} {D : Addr} {b : Bool} {py : Pos} (F : ExcBaseFacts B newId initId bmB) (q : PySem.W.excIn X.K C bmB newId = true) (gC : X.mg x = some (.ref C)) (kC : PySem.W.keepIn X.K (.ref C) = true) (hgx : Gl X x) (he : PE X e ta) (hg : Gl X "isinstance") (hm : X.mg "isinstance" = none)
    (hgy : Gl X y) (hmy : X.mg y = some (.ref D)) (hC : ExcC X.K C) (hb : PySem.W.kitOne X.K (.ref C) (.ref D) = some b)
    (hse : starEach [e] X.env = (false, eval e X.env) :: starEach [] X.env := by rfl) (hso : starEach [.Call (.Name x p) [e] [] pos, .Name y py] X.env = (false, eval (.Call (.Name x p) [e] [] pos) X.env) :: starEach [.Name y py] X.env := by rfl) (hsy : starEach [.Name y py] X.env = (false, eval (.Name y py) X.env) :: starEach [] X.env := by rfl) (hdb : (x == ("__debug__" : Str)) = false := by decide) (hdy : (y == ("__debug__" : Str)) = false := by decide) :
    PE X (.Call (.Name "isinstance" p0) [.Call (.Name x p) [e] [] pos, .Name y py] [] pos0) (fun σ H Q => ta σ H fun _ H1 => Q (.bl b) H1) := by
  refine ⟨fun pins s σ H Q I h => ?_⟩
  refine wpAny_Call_Name_kw (ld_blt (u := .builtin "isinstance") I hg hm (by decide +kernel) ?_ (by decide) (by decide))
  refine PyProof.Rows.callWith_builtin1 ?_ hso (by rw [hsy]; rfl)
  rw [hso, hsy]
  show wpAny _ _ (spliced ((false, eval (.Call (.Name x p) [e] [] pos) X.env) :: (false, eval (.Name y py) X.env) :: backTo pos0 (starEach [] X.env))) _ _ s
  refine Calls.spliced_cons (exc_made F q gC kC hgx he I h (fun v H1 qz s1 u h' a I1 r1 hm => ?_) hse hdb (fun _ _ z => z))
  obtain ⟨t, h1, h2, h3⟩ := hm.there
  have J : Inv X pins σ H1 { s1 with heap := h' } := I1.kept hm.keeps
  refine Calls.spliced_cons (ld_glob J hgy hmy ?_ hdy)
  refine Calls.spliced_nil ?_
  have JA : PySem.W.InstAt h' a _ C none := ⟨h1, rfl, rfl, trivial⟩
  exact PySem.W.kia_one (PySem.W.handS_kitx_exc hC.hg hC.hk hC.hs hC.hd hC.ha hC.hn hC.ht hC.hm) J.kIn JA hb (fun z => nomatch z) fun tk => ⟨.bl b, H1, J.kept (t' := tk) fun _ _ z => z, rfl, qz⟩
end
section
variable {X : Cx} {k : Nat} {x : Str} {st : Stmt} {ps : List Str} {sp : Sp} {p pos : Pos} {e : Expr} {es : List Expr} {t : TA} {E : L2.St → XK}
theorem pe_cdS {d : Df X.K X.mg x st ps} (G : FnOk X.prog X.w X.K X.mg X.base (L2.CX X.prog X.w) k d.f d.fd ps sp) (hr : Room k X.A) (hx : ∀ σ, PassesAt (L2.CX X.prog X.w) X σ (E σ)) (ha : PA X (e :: es) t) (hg : Gl X x := by rfl) (hdb : (x == ("__debug__" : Str)) = false := by decide)
    (he : starEach (e :: es) X.env = (false, eval e X.env) :: starEach es X.env := by rfl) (hpl : (backTo pos (starEach es X.env)).any (·.1) = false := by rfl) : PE X (.Call (.Name x p) (e :: es) [] pos) (tCallS sp E t) :=
  pe_callS G hr hg d.g d.F.kp d.b hx ha hdb he hpl
theorem ix_strK {K : PySem.W.Frag} : IxR X rIxS := ix_str
end
theorem hu2 {A : Around} {k : Nat} (hr : Room k A) : A.units + 2 < cLine := Nat.lt_of_le_of_lt (by omega) (hu65 hr)
end Ord

set_option pp.deepTerms false
set_option pp.maxSteps 1500
namespace Ord
open PySem PySem.Spec PyProof.Rows L2
section
variable {P : Program} {w : World} {K : PySem.W.Frag} {mg : Str → Option Value} {base : Heap} {CN CM CE : Addr}
theorem nil_nil : PyData.eqv (.list []) (.list []) = true := by rw [PyData.eqv, PyData.eqvAll]
/-- of what is empty: the first argument -/
def spNone1 (CE : Addr) : Sp := fun vs H _ E => ∃ (a : Addr) (f : V), vs = [.ref a, f] ∧ H a = some (.lst []) ∧ ∀ H', Same H H' → E (.ref CE) none H'
def N_pop : List Str := ["heap", "order", "rest"]
theorem sc_pop : FnScope ["heap", "order", "rest"] ["heap", "order"] (defScope st_pop) := ⟨rfl, rfl, rfl, by decide +kernel, rfl, by decide +kernel, by decide +kernel⟩
theorem ok_popX (d_pop : Df K mg "pop" st_pop ["heap", "order"]) (TE : ExcT K mg "NoElement" CE) : FnOk P w K mg base (L2.CX P w) 1 d_pop.f d_pop.fd ["heap", "order"] (spNone1 CE) := by
  refine d_pop.F.okX sc_pop (fun vs H Q E h => ?_) (fun cdv A outer s H vs Q E hr h => ?_)
  · obtain ⟨a, f, rfl, _⟩ := h
    rfl
  · obtain ⟨a, f, rfl, ha, hE⟩ := h
    have nd := sc_pop.nd
    refine ⟨_, (pss_cons (ps_if (pt_cmpR (op_eqD hr.units) (pv 0) (pe_lst pa_nil) (nomark _))
    (pss_one (ps_raise rfl (takes_of rfl rfl rfl rfl) (pmk_own PySem.F.excBase_ValueError TE.xP TE.g TE.kP (raises_own TE.bP TE.tP) rfl)))
    pss_nil)
  pss_dead), ?_⟩
    refine ⟨_, rfl, Nat.zero_le _, fun p np => ?_⟩
    refine ⟨.list [], .list [], .lst (SqL.of (kn np ha)) .nil, .lst (SqL.of upd_same) .nil, shaped_nil, shaped_nil, _, rfl, ?_⟩
    rw [nil_nil]
    exact iteT (hE _ (Same.new np))
def N_least : List Str := ["row", "order", "found", "element"]
theorem sc_least : FnScope ["row", "order", "found", "element"] ["row", "order"] (defScope st_least) := ⟨rfl, rfl, rfl, by decide +kernel, rfl, by decide +kernel, by decide +kernel⟩
theorem ok_leastX (d_least : Df K mg "least" st_least ["row", "order"]) (TE : ExcT K mg "NoElement" CE) : FnOk P w K mg base (L2.CX P w) 1 d_least.f d_least.fd ["row", "order"] (spNone1 CE) := by
  refine d_least.F.okX sc_least (fun vs H Q E h => ?_) (fun cdv A outer s H vs Q E hr h => ?_)
  · obtain ⟨a, f, rfl, _⟩ := h
    rfl
  · obtain ⟨a, f, rfl, ha, hE⟩ := h
    have nd := sc_least.nd
    refine ⟨_, (pss_cons (ps_if (pt_cmpR (op_eqD hr.units) (pv 0) (pe_lst pa_nil) (nomark _))
    (pss_one (ps_raise rfl (takes_of rfl rfl rfl rfl) (pmk_own PySem.F.excBase_ValueError TE.xP TE.g TE.kP (raises_own TE.bP TE.tP) rfl)))
    pss_nil)
  pss_dead), ?_⟩
    refine ⟨_, rfl, Nat.zero_le _, fun p np => ?_⟩
    refine ⟨.list [], .list [], .lst (SqL.of (kn np ha)) .nil, .lst (SqL.of upd_same) .nil, shaped_nil, shaped_nil, _, rfl, ?_⟩
    rw [nil_nil]
    exact iteT (hE _ (Same.new np))
def N_ends : List Str := ["row", "order", "low", "high", "start", "k", "small", "great"]
theorem sc_ends : FnScope ["row", "order", "low", "high", "start", "k", "small", "great"] ["row", "order"] (defScope st_ends) := ⟨rfl, rfl, rfl, by decide +kernel, rfl, by decide +kernel, by decide +kernel⟩
theorem ok_endsX (d_ends : Df K mg "ends" st_ends ["row", "order"]) (TE : ExcT K mg "NoElement" CE) : FnOk P w K mg base (L2.CX P w) 1 d_ends.f d_ends.fd ["row", "order"] (spNone1 CE) := by
  refine d_ends.F.okX sc_ends (fun vs H Q E h => ?_) (fun cdv A outer s H vs Q E hr h => ?_)
  · obtain ⟨a, f, rfl, _⟩ := h
    rfl
  · obtain ⟨a, f, rfl, ha, hE⟩ := h
    have nd := sc_ends.nd
    refine ⟨_, (pss_cons (ps_if (pt_cmpR (op_eqD hr.units) (pv 0) (pe_lst pa_nil) (nomark _))
    (pss_one (ps_raise rfl (takes_of rfl rfl rfl rfl) (pmk_own PySem.F.excBase_ValueError TE.xP TE.g TE.kP (raises_own TE.bP TE.tP) rfl)))
    pss_nil)
  pss_dead), ?_⟩
    refine ⟨_, rfl, Nat.zero_le _, fun p np => ?_⟩
    refine ⟨.list [], .list [], .lst (SqL.of (kn np ha)) .nil, .lst (SqL.of upd_same) .nil, shaped_nil, shaped_nil, _, rfl, ?_⟩
    rw [nil_nil]
    exact iteT (hE _ (Same.new np))
def N_nth : List Str := ["row", "k", "order"]
theorem sc_nth : FnScope ["row", "k", "order"] ["row", "k", "order"] (defScope st_nth) := ⟨rfl, rfl, rfl, by decide +kernel, rfl, by decide +kernel, by decide +kernel⟩
def spNthX (K : PySem.W.Frag) (CE : Addr) : Sp := fun vs H _ E => ∃ (a : Addr) (xs : List V) (k : Int) (f : V), vs = [.ref a, .int k, f] ∧ SqL K H a xs ∧ ¬ (0 ≤ k ∧ k < (xs.length : Int)) ∧ E (.ref CE) none H
theorem ok_nthX (d_nth : Df K mg "nth" st_nth ["row", "k", "order"]) (TE : ExcT K mg "NoPlace" CE) (mLen : mg "len" = none) : FnOk P w K mg base (L2.CX P w) 1 d_nth.f d_nth.fd ["row", "k", "order"] (spNthX K CE) := by
  refine d_nth.F.okX sc_nth (fun vs H Q E h => ?_) (fun cdv A outer s H vs Q E hr h => ?_)
  · obtain ⟨a, xs, k, f, rfl, _⟩ := h
    rfl
  · obtain ⟨a, xs, k, f, rfl, hS, hk, hE⟩ := h
    have nd := sc_nth.nd
    refine ⟨_, (pss_cons (ps_if (pt_not (pt_chain op_le op_lt pe_int (pv 1) (pe_len mLen (pv 0))))
    (pss_one (ps_raise rfl (takes_of rfl rfl rfl rfl) (pmk_own PySem.F.excBase_ValueError TE.xP TE.g TE.kP (raises_own TE.bP TE.tP) rfl)))
    pss_nil)
  pss_dead), ?_⟩
    refine ⟨_, rfl, _, _, rfl, rfl, _, rfl, ?_⟩
    refine iteD (fun h0 => ?_) (fun _ => ⟨_, rfl, iteT hE⟩)
    have h0' : (0 : Int) ≤ k := h0
    refine ⟨_, rfl, a, xs, rfl, .inl hS, _, _, rfl, rfl, _, rfl, ?_⟩
    rw [show decide (k < (xs.length : Int)) = false from decide_eq_false (by omega)]
    exact iteT hE
/-! ### an empty map -/
def spFound0 (CM : Addr) : Sp := fun vs H Q _ => ∃ (m dx f : Addr) (key : V), vs = [.ref m, key] ∧ H m = some (.ins CM dx (mfl f .non)) ∧ ∀ tu, H tu = none → Q (.ref tu) (upd H tu (.tup [.non, .int 0]))
theorem ok_found0 (d_Map_found : Dm K CM "found" "Map.found" st_Map_found ["self", "key"]) (TM : MapT K CM) : FnOk P w K mg base CX0 1 d_Map_found.f d_Map_found.fd ["self", "key"] (spFound0 CM) := by
  refine d_Map_found.F.ok sc_Map_found (fun vs H Q E h => ?_) (fun cdv A outer s H vs Q E hr h => ?_)
  · obtain ⟨m, dx, f, key, rfl, _⟩ := h
    rfl
  · obtain ⟨m, dx, f, key, rfl, hm, hQ⟩ := h
    have nd := sc_Map_found.nd
    refine ⟨_, (pss_cons (ps_set (i := 2) nd rfl (Or.inl rfl) (pe_fld (pv 0) rfl))
  (pss_cons (ps_set (i := 3) nd rfl (Or.inl rfl) pe_int)
  (pss_cons (ps_while PassesOwn.never (pt_cmpR op_notN (pv 2) pe_non (nomark _))
    pss_dead)
  (pss_one (ps_ret (pe_tup (pa_cons pe_non (pa_cons (pv 3) pa_nil)))))))), ?_⟩
    refine ⟨_, rfl, m, CM, dx, _, _, rfl, hm, TM.cl, TM.nr, mfl_root _ _, ?_⟩
    refine ⟨fun mu σ H' => σ = [some (.ref m), some key, some .non, some (.int 0), none] ∧ H' = H, ⟨0, rfl, rfl⟩, ?_⟩
    rintro mu σ H1 ⟨rfl, rfl⟩
    refine ⟨_, rfl, rfl, _, rfl, ?_⟩
    rw [non_non]
    refine iteF ?_
    exact ⟨_, rfl, by show 2 ≤ sizeLine; decide, fun tu ntu => hQ tu ntu⟩
def spGet0 (CM CE : Addr) : Sp := fun vs H _ E => ∃ (m dx f : Addr) (key : V), vs = [.ref m, key] ∧ H m = some (.ins CM dx (mfl f .non)) ∧ ∀ H', Same H H' → E (.ref CE) none H'
theorem ok_get0 (d_Map_get : Dm K CM "get" "Map.get" st_Map_get ["self", "key"]) (d_Map_found : Dm K CM "found" "Map.found" st_Map_found ["self", "key"]) (TM : MapT K CM) (TE : ExcT K mg "NoElement" CE) : FnOk P w K mg base (L2.CX P w) 2 d_Map_get.f d_Map_get.fd ["self", "key"] (spGet0 CM CE) := by
  have G_Map_found : FnOk P w K mg base CX0 1 d_Map_found.f d_Map_found.fd ["self", "key"] (spFound0 CM) := ok_found0 d_Map_found TM
  refine d_Map_get.F.okX sc_Map_get (fun vs H Q E h => ?_) (fun cdv A outer s H vs Q E hr h => ?_)
  · obtain ⟨m, dx, f, key, rfl, _⟩ := h
    rfl
  · obtain ⟨m, dx, f, key, rfl, hm, hE⟩ := h
    have nd := sc_Map_get.nd
    refine ⟨_, (pss_cons (ps_asg (pe_md (d := d_Map_found) TM.cl G_Map_found (hr.mono (by decide)) (pv 0) (pa_cons (pv 1) pa_nil)) (pg_tup (by rfl) (pgs_cons (pg_name (i := 2) nd rfl (Or.inl rfl)) (pgs_cons (pg_name (i := 3) nd rfl (Or.inl rfl)) pgs_nil))))
  (pss_cons (ps_if (pt_cmpR op_isN (pv 2) pe_non (nomark _))
    (pss_one (ps_raise rfl (takes_of rfl rfl rfl rfl) (pmk_own PySem.F.excBase_ValueError TE.xP TE.g TE.kP (raises_own TE.bP TE.tP) rfl)))
    pss_nil)
  pss_dead)), ?_⟩
    refine ⟨_, rfl, m, dx, _, rfl, hm, mfl_no _ _ (by decide +kernel) (by decide +kernel), _, rfl, m, dx, f, key, rfl, hm, fun tu ntu => ?_⟩
    refine ⟨tu, _, rfl, SqT.of upd_same, rfl, _, _, rfl, _, _, rfl, rfl, ?_⟩
    refine ⟨_, rfl, rfl, _, rfl, ?_⟩
    rw [non_non]
    exact iteT (hE _ (Same.new ntu))
def spAt0 (CM CE : Addr) : Sp := fun vs H _ E => ∃ (m dx f : Addr) (i : Int), vs = [.ref m, .int i] ∧ H m = some (.ins CM dx (mfl f .non)) ∧ E (.ref CE) none H
theorem ok_at0 (d_Map_at : Dm K CM "at" "Map.at" st_Map_at ["self", "place"]) (d_Map_size : Dm K CM "size" "Map.size" st_Map_size ["self"]) (d_many_of : Df K mg "many_of" st_many_of ["node"]) (TN : NodeT K CN) (TM : MapT K CM) (TE : ExcT K mg "NoPlace" CE) : FnOk P w K mg base (L2.CX P w) 3 d_Map_at.f d_Map_at.fd ["self", "place"] (spAt0 CM CE) := by
  have G_Map_size : FnOk P w K mg base CX0 2 d_Map_size.f d_Map_size.fd ["self"] (spSizeM CM CN) := ok_size_m d_Map_size d_many_of TN TM
  refine d_Map_at.F.okX sc_Map_at (fun vs H Q E h => ?_) (fun cdv A outer s H vs Q E hr h => ?_)
  · obtain ⟨m, dx, f, i, rfl, _⟩ := h
    rfl
  · obtain ⟨m, dx, f, i, rfl, hm, hE⟩ := h
    have nd := sc_Map_at.nd
    refine ⟨_, (pss_cons (ps_if (pt_not (pt_chain op_le op_lt pe_int (pv 1) (pe_md0 (d := d_Map_size) TM.cl G_Map_size (hr.mono (by decide)) (pv 0))))
    (pss_one (ps_raise rfl (takes_of rfl rfl rfl rfl) (pmk_own PySem.F.excBase_ValueError TE.xP TE.g TE.kP (raises_own TE.bP TE.tP) rfl)))
    pss_nil)
  pss_dead), ?_⟩
    refine ⟨_, rfl, _, _, rfl, rfl, _, rfl, ?_⟩
    refine iteD (fun h0 => ?_) (fun _ => ⟨_, rfl, iteT hE⟩)
    have h0' : (0 : Int) ≤ i := h0
    refine ⟨_, rfl, m, dx, _, rfl, hm, mfl_no _ _ (by decide +kernel) (by decide +kernel), m, m, dx, f, .non, .lf, rfl, hm, rfl, _, _, rfl, rfl, _, rfl, ?_⟩
    rw [show decide (i < ((Mir.cnt (Mir.Tr.lf : Mir.Tr V) : Nat) : Int)) = false from decide_eq_false (by show ¬ i < ((0 : Nat) : Int); omega)]
    exact iteT hE
end
end Ord

set_option pp.deepTerms false
set_option pp.maxSteps 1500
namespace Ord
open PySem PySem.Spec PyProof.Rows L2 LamX
/-- the own classes of exceptions, looked at -/
structure ExcW (K : PySem.W.Frag) (mg : Str → Option Value) (CO CE CP : Addr) : Prop where
  gO : mg "OrderError" = some (.ref CO)
  gE : mg "NoElement" = some (.ref CE)
  gP : mg "NoPlace" = some (.ref CP)
  eE : PySem.W.exmOne K (.ref CE) (.ref CO) = some true
  eP : PySem.W.exmOne K (.ref CP) (.ref CO) = some true
  cE : ExcC K CE
  cP : ExcC K CP
  kEV : PySem.W.kitOne K (.ref CE) (.type "ValueError") = some true
  kPV : PySem.W.kitOne K (.ref CP) (.type "ValueError") = some true
  kEE : PySem.W.kitOne K (.ref CE) (.ref CE) = some true
  kEP : PySem.W.kitOne K (.ref CE) (.ref CP) = some false
  kPE : PySem.W.kitOne K (.ref CP) (.ref CE) = some false
  kPP : PySem.W.kitOne K (.ref CP) (.ref CP) = some true
  sE : PySem.W.findIn K (.ref CE) "__str__" = some (some (.builtin "BaseException.__str__"))
  sP : PySem.W.findIn K (.ref CP) "__str__" = some (some (.builtin "BaseException.__str__"))
def excCB (K : PySem.W.Frag) (D : Addr) : Bool :=
  decide (PySem.W.findIn K (.ref D) "__getattribute__" = some (some (.builtin "BaseException.__getattribute__"))) && (decide (PySem.W.findIn K (.ref D) "__getattr__" = some none) && (decide (PySem.W.subIn K (.ref D) (.type "BaseException") = some true) && (PySem.W.hasDictIn K D &&
  (decide (PySem.W.findIn K (.ref D) "__class__" = some (some (.builtin "object.__class__"))) && (decide (PySem.W.specialIn K (.builtin "object.__class__") "__get__" = some (some (.builtin "getset_descriptor.__get__"))) && (decide (PySem.W.takesIn K (.builtin "object.__class__") = some true) && decide (PySem.W.mroIn K D (.type "object") = some true)))))))
theorem excCB_ok {K : PySem.W.Frag} {D : Addr} (h : excCB K D = true) : ExcC K D := by
  unfold excCB at h
  simp only [Bool.and_eq_true, decide_eq_true_eq] at h
  obtain ⟨h1, h2, h3, h4, h5, h6, h7, h8⟩ := h
  exact ⟨h1, h2, h3, h4, h5, h6, h7, h8⟩
def exwB (K : PySem.W.Frag) (CO CE CP : Addr) : Bool :=
  decide (PySem.W.exmOne K (.ref CE) (.ref CO) = some true) && (decide (PySem.W.exmOne K (.ref CP) (.ref CO) = some true) && (excCB K CE && (excCB K CP && (decide (PySem.W.kitOne K (.ref CE) (.type "ValueError") = some true) && (decide (PySem.W.kitOne K (.ref CP) (.type "ValueError") = some true) &&
  (decide (PySem.W.kitOne K (.ref CE) (.ref CE) = some true) && (decide (PySem.W.kitOne K (.ref CE) (.ref CP) = some false) && (decide (PySem.W.kitOne K (.ref CP) (.ref CE) = some false) && (decide (PySem.W.kitOne K (.ref CP) (.ref CP) = some true) &&
  (decide (PySem.W.findIn K (.ref CE) "__str__" = some (some (.builtin "BaseException.__str__"))) && decide (PySem.W.findIn K (.ref CP) "__str__" = some (some (.builtin "BaseException.__str__")))))))))))))
theorem exw_ok {K : PySem.W.Frag} {mg : Str → Option Value} {CO CE CP : Addr} (gO : mg "OrderError" = some (.ref CO)) (gE : mg "NoElement" = some (.ref CE)) (gP : mg "NoPlace" = some (.ref CP)) (h : exwB K CO CE CP = true) : ExcW K mg CO CE CP := by
  unfold exwB at h
  simp only [Bool.and_eq_true, decide_eq_true_eq] at h
  obtain ⟨h1, h2, h3, h4, h5, h6, h7, h8, h9, h10, h11, h12⟩ := h
  exact ⟨gO, gE, gP, h1, h2, excCB_ok h3, excCB_ok h4, h5, h6, h7, h8, h9, h10, h11, h12⟩
/-- as many slots as names -/
theorem pss_len {X : Cx} {sts : List Stmt} {t : TS} {n : Nat} (hn : X.N.length = n) (h : PSs X sts t) : PSs X sts (fun D σ H => σ.length = n → t D σ H) := ⟨fun pins s σ H D I hw => h.run pins s σ H D I (hw (I.len.trans hn))⟩
/-- isinstance of what the suite holds, its class told later -/
def rIsW (K : PySem.W.Frag) (cls : Value) (d : Option Addr) (a : Addr) : List V → Hp → VK → Prop := fun xs H Q => ∃ D : Addr, cls = .ref D ∧ d = none ∧ ExcC K D ∧ rIsE K D a xs H Q
theorem call_isW {X : Cx} {a : Addr} {cls : Value} {d : Option Addr} {oe : Obj} {pn : List (Addr × Obj)} (hz : Zc cls d oe) (hf : ∃ vs, oe.data = .fields vs) : CallR (X.suite a ((a, oe) :: pn)) (.builtin "isinstance") (rIsW X.K cls d a) := by
  intro pins s σ H xs us Q I r h
  obtain ⟨D, rfl, rfl, hC, h⟩ := h
  exact call_isE hC hz hf pins s σ H xs us Q I r h
def wOther : Str := "other"
def wNone : Str := "none"
def wElem : Str := "NoElement"
def wPlace : Str := "NoPlace"
/-- what _law_word makes of a rule -/
def TTword (CE CP : Addr) : (XK → Hp → VK → Prop) → Hp → VK → Prop := fun tl H Q =>
  tl (fun cls d H' => d = none ∧ ((cls = .ref CE ∧ ∀ H2, Same H' H2 → Q (.str wElem) H2) ∨ (cls = .ref CP ∧ ∀ H2, Same H' H2 → Q (.str wPlace) H2))) H (fun _ H' => Q (.str wNone) H')
def N__law_word : List Str := ["_law_rule", "e"]
theorem sc__law_word : FnScope ["_law_rule", "e"] ["_law_rule"] (defScope st__law_word) := ⟨rfl, rfl, rfl, by decide +kernel, rfl, by decide +kernel, by decide +kernel⟩
theorem ref_ty {T : String} : ∀ u, RelV (.ty T) u → u = .type T := fun u r => r
theorem ref_eq {C : Addr} : ∀ u, RelV (.ref C) u → u = .ref C := fun u r => r
theorem word_gives {X : Cx} {CO CE CP : Addr} {g : Addr} {cdg : Value} {q : Str} (W0 : ExcW X.K X.mg CO CE CP) (mIsi : X.mg "isinstance" = none) (mInt : X.mg "int" = none) (mVE : X.mg "ValueError" = none) :
    GivesTo X N__law_word "_law_word" (defScope st__law_word) g cdg (defBody st__law_word) "_law_rule" q (TTword CE CP) := by
  intro f c' s H Q tl act hc h
  refine ⟨_, pss_cons (ps_try_as (X := (cxOf C8.CX0 X.prog X.w X.K X.mg X.base N__law_word "_law_word" (defScope st__law_word) g cdg X.A X.stack s H C8.E0).nox) (c := .ref CO) (i := 1)
      (tb := fun W D σ H => ∃ Ech : XK, (∀ cls d σ' H', Ech cls d H' → W cls d σ' H') ∧ σ[0]? = some (some (.ref f)) ∧ H c' = some (CodeO c' q) ∧ tl Ech H (fun _ H1 => D.nx σ H1))
      rfl rfl sc__law_word.nd rfl rfl ⟨rfl, by decide, .inl W0.gO⟩ L2.takes0 (fun W pn xe tk _ => ?_) (fun a oe cls d pn hz hf => 
        pss_len (n := 2) rfl (pss_cons (ps_if (PW.pt (pw_or (pt_not (pt_val (pe_callB (call_isW hz hf) (by rfl) mIsi (by decide +kernel) (pa_cons (pv 1) (pa_cons (pe_bltn (v := .ty "ValueError") (by rfl) mVE (by decide +kernel) rfl) pa_nil)))))
          (pw_or1 (pt_cmpR op_eq (pe_callB (call_isW hz hf) (by rfl) mIsi (by decide +kernel) (pa_cons (pv 1) (pa_cons (pe_glob (v := .ref CE) (by rfl) W0.gE rfl) pa_nil))) (pe_callB (call_isW hz hf) (by rfl) mIsi (by decide +kernel) (pa_cons (pv 1) (pa_cons (pe_glob (v := .ref CP) (by rfl) W0.gP rfl) pa_nil))) (nomark _)))))
          (pss_one (ps_ret pe_str)) pss_nil)
        (pss_one (ps_ret (pe_ix (ix_listK (K := X.K)) (pe_lst (pa_cons pe_str (pa_cons pe_str pa_nil))) (pe_callTy call_int1 (by rfl) mInt (by decide +kernel) (pa_cons (pe_callB (call_isW hz hf) (by rfl) mIsi (by decide +kernel) (pa_cons (pv 1) (pa_cons (pe_glob (v := .ref CE) (by rfl) W0.gE rfl) pa_nil))) pa_nil)) (fun _ _ => rfl)))))))
      (pss_one (ps_ret pe_str)), ?_⟩
  · refine ⟨fun pins s' σ H' D I h' => ?_⟩
    obtain ⟨Ech, hW, h1, h2, h3⟩ := h'
    exact PSs.run (pss_one (ps_expr (act W pn xe Ech _ _ tk hW))) pins s' σ H' D I ⟨h1, h2, h3⟩
  · refine ⟨_, fun cls d σ' H' hh => ?_, rfl, hc, h⟩
    obtain ⟨rfl, ⟨rfl, hq⟩ | ⟨rfl, hq⟩⟩ := hh
    · refine ⟨true, W0.eE, fun _ a na hlen => ?_, fun z => nomatch z⟩
      have hl2 : 1 < σ'.length := by
        rw [List.length_set] at hlen
        omega
      have h1 : (σ'.set 1 (some (V.ref a)))[1]? = some (some (V.ref a)) := by rw [List.getElem?_set_self hl2]
      have isE : ∀ {c : V} {cv : Value} {b : Bool} {H2 : Hp} {Q2 : VK}, (∀ u, RelV c u → u = cv) → PySem.W.kitOne X.K (.ref CE) cv = some b → Q2 (.bl b) H2 → rIsW X.K (.ref CE) none a [.ref a, c] H2 Q2 := fun h1 h2 h3 => ⟨CE, rfl, rfl, W0.cE, _, _, _, rfl, h1, h2, h3⟩
      refine ⟨_, h1, isE ref_ty W0.kEV ⟨_, rfl, iteF ?_⟩⟩
      refine ⟨_, h1, isE ref_eq W0.kEE ⟨_, h1, isE ref_eq W0.kEP ⟨rfl, _, rfl, ?_⟩⟩⟩
      rw [decide_eq_false (fun z => by cases z)]
      refine iteF ?_
      refine ⟨by show 2 ≤ sizeLine; decide, fun lp nlp => ?_⟩
      exact ⟨_, h1, isE ref_eq W0.kEE (.inr ⟨_, rfl, lp, _, 1, .str wElem, rfl, rfl, SqL.of upd_same, rfl, hq _ (Same.new nlp)⟩)⟩
    · refine ⟨true, W0.eP, fun _ a na hlen => ?_, fun z => nomatch z⟩
      have hl2 : 1 < σ'.length := by
        rw [List.length_set] at hlen
        omega
      have h1 : (σ'.set 1 (some (V.ref a)))[1]? = some (some (V.ref a)) := by rw [List.getElem?_set_self hl2]
      have isE : ∀ {c : V} {cv : Value} {b : Bool} {H2 : Hp} {Q2 : VK}, (∀ u, RelV c u → u = cv) → PySem.W.kitOne X.K (.ref CP) cv = some b → Q2 (.bl b) H2 → rIsW X.K (.ref CP) none a [.ref a, c] H2 Q2 := fun h1 h2 h3 => ⟨CP, rfl, rfl, W0.cP, _, _, _, rfl, h1, h2, h3⟩
      refine ⟨_, h1, isE ref_ty W0.kPV ⟨_, rfl, iteF ?_⟩⟩
      refine ⟨_, h1, isE ref_eq W0.kPE ⟨_, h1, isE ref_eq W0.kPP ⟨rfl, _, rfl, ?_⟩⟩⟩
      rw [decide_eq_false (fun z => by cases z)]
      refine iteF ?_
      refine ⟨by show 2 ≤ sizeLine; decide, fun lp nlp => ?_⟩
      exact ⟨_, h1, isE ref_eq W0.kPE (.inr ⟨_, rfl, lp, _, 0, .str wPlace, rfl, rfl, SqL.of upd_same, rfl, hq _ (Same.new nlp)⟩)⟩
theorem pe_word {X : Cx} {T : List (Addr × Str)} {q : Str} {c P CO CE CP : Addr} {k : Nat} {params : Arguments} {body : Expr} {scope : Scope} {t : XK → TE} {p lpos pos : Pos} (d : Df X.K X.mg "_law_word" st__law_word ["_law_rule"]) (W0 : ExcW X.K X.mg CO CE CP) (mIsi : X.mg "isinstance" = none) (mInt : X.mg "int" = none) (mVE : X.mg "ValueError" = none)
    (eq : X.env.qual ++ "<lambda>" = q) (TB : TabB X.base X.mg c P) (hcode : X.env.code = .ref c) (hmT : (P, q) ∈ T) (hu : ∀ p ∈ T, p.1 = P → p.2 = q) (hr : Room (k + 2) X.A) (L : LamS X.env.scope scope) (hdef : defaultsOf params X.env = ([], []))
    (hbind : ∀ (q : Str) (cl : List (Str × Addr)) (pm cv ctv : Value), bindArgs (PySem.W.kla_fn "<lambda>" q params body scope cl pm cv ctv) ⟨[], []⟩ = pure [])
    (hbody : ∀ (A : Around) (outer : List Env) (s : Shared) (H : Hp) (E : XK) (f c' : Addr), Room k (A.deeper (lamEnv X scope s.heap.objs.size f c')) → PE (lamCx X A outer s H E scope f c') body (t E)) (hg : Gl X "_law_word" := by rfl) :
    PE X (.Call (.Name "_law_word" p) [.Lambda params body scope lpos] [] pos) (tLam T (TTword CE CP) t) := by
  subst eq
  obtain ⟨oc, od, kV, doc, pm, an, cdv, ct, osl, e, lk, hcd⟩ := d.F.ex
  have hb := d.b
  rw [e] at lk hb
  exact pe_lamcall hg d.g d.F.kp lk hcd hb sc__law_word rfl (.inl rfl) (word_gives W0 mIsi mInt mVE) TB hcode hmT hu hr L hdef hbind hbody
end Ord

namespace Ord
open PySem PySem.Spec PyProof.Rows L2 LamX
section
variable {X : Cx} {σ : L2.St} {H1 H2 H3 : Hp} {q : Addr}
theorem Lent.same (L : Lent X σ H1 H2) : Same H1 H2 := fun _ _ e => L.keep e
theorem Lent.fzK (L : Lent X σ H1 H2) (hq : ∀ ob, H2 q ≠ some (Fz ob)) (k : KB q H2 H3) {b : Addr} (hb : b ∈ X.env.cells.map (·.2)) : ∃ o, H3 b = some (Fz o) := by
  obtain ⟨o, v, e, _⟩ := L.fz b hb
  exact ⟨o, k.keep b _ (fun z => hq o (by rw [← z]; exact e)) e⟩
theorem Lent.out3 (L : Lent X σ H1 H2) (hq : ∀ ob, H2 q ≠ some (Fz ob)) (k : KB q H2 H3) {b : Addr} {o : HO} (e : H3 b = some o) (n : ∀ ob, o ≠ Fz ob) : b ∉ X.env.cells.map (·.2) := fun hb => by
  obtain ⟨ob, e'⟩ := L.fzK hq k hb
  rw [e] at e'
  exact n ob (Option.some.inj e')
/-- what stood ahead of the call stands behind it -/
theorem Lent.kb (L : Lent X σ H1 H2) (k : KB q H2 H3) : KB q H1 (strip X.env.cells H3) := by
  have nc : ∀ b o, H1 b = some o → b ∉ X.env.cells.map (·.2) := fun b o e hb => by
    rw [L.none_ b hb] at e
    cases e
  exact ⟨fun b o n e => by rw [strip_out (nc b o e)]; exact k.keep b o n (L.keep e), fun b xs e => by rw [strip_out (nc b _ e)]; exact k.tk b xs (L.keep e)⟩
/-- what is found behind the call is there, but the cells -/
theorem Lent.at3 (L : Lent X σ H1 H2) (hq : ∀ ob, H2 q ≠ some (Fz ob)) (k : KB q H2 H3) {b : Addr} {o : HO} (e : H3 b = some o) (n : ∀ ob, o ≠ Fz ob) : strip X.env.cells H3 b = some o := by
  rw [strip_out (L.out3 hq k e n)]
  exact e
theorem Lent.tk3 (L : Lent X σ H1 H2) (hq : ∀ ob, H2 q ≠ some (Fz ob)) (k : KB q H2 H3) : TK H3 (strip X.env.cells H3) := fun b xs e => L.at3 hq k e tup_fz
/-- a new object was not there ahead of the call -/
theorem Lent.free1 (L : Lent X σ H1 H2) {p : Addr} (n : H2 p = none) : H1 p = none := by
  by_cases hb : p ∈ X.env.cells.map (·.2)
  · exact L.none_ p hb
  · rw [← L.out p hb]
    exact n
theorem lst_nfz {H : Hp} {q : Addr} {xs : List V} (e : H q = some (.lst xs)) (ob : Obj) : H q ≠ some (Fz ob) := fun z => by
  rw [e] at z
  cases z
/-- the cells that a lambda made here captured, lent -/
theorem Lent.clos (L : Lent X σ H1 H2) {scope : Scope} {fr : List Str} {js : List Nat} (hfree : ∀ y ∈ scope.names, y.2 = .free → X.env.scope.names.lookup y.1 = some .cell ∨ X.env.scope.names.lookup y.1 = some .free)
    (hfr : ∀ y ∈ fr, (y, NameKind.free) ∈ scope.names) (hjs : js.map (fun j => X.N[j]?) = fr.map some) : ClosAt (cloFrom X.env.cells scope.names []) fr (js.map (NdefX.slotAt σ)) H2 := by
  have hf : ∀ y ∈ scope.names, y.2 = .free → ∃ c, X.env.cells.lookup y.1 = some c := fun y hy e => L.has _ (hfree y hy e)
  refine ⟨?_, fun b hb => ?_, fun x y c e1 e2 => L.inj x y c (NdefX.clo_cm hf e1) (NdefX.clo_cm hf e2), fun i y e => ?_⟩
  · have q := congrArg List.length hjs
    rw [List.length_map, List.length_map] at q
    rw [List.length_map]
    exact q
  · obtain ⟨⟨x, c⟩, hm, e⟩ := List.mem_map.mp hb
    have e : c = b := e
    subst e
    rcases cloFrom_mem hm with hm | ⟨h1, h2⟩
    · cases hm
    · obtain ⟨c1, hc⟩ := hf _ h1 rfl
      have hc : X.env.cells.lookup x = some c1 := hc
      have e2 : c = c1 := by
        rw [h2, hc]
        rfl
      subst e2
      exact L.fz _ (lookup_mem2 hc)
  · have k := hfree (y, .free) (hfr y (List.mem_of_getElem? e)) rfl
    obtain ⟨c, hc⟩ := L.has y k
    refine ⟨c, NdefX.clo_has hf (hfr y (List.mem_of_getElem? e)) hc, fun v ev => ?_⟩
    have e2 : (js.map fun j => X.N[j]?)[i]? = some (some y) := by
      rw [hjs, List.getElem?_map, e]
      rfl
    rw [List.getElem?_map] at e2 ev
    cases ej : js[i]? with
    | none =>
      rw [ej] at e2
      cases e2
    | some j =>
      rw [ej] at e2 ev
      have hj : X.N[j]? = some y := Option.some.inj (show some (X.N[j]?) = some (some y) from e2)
      have hs : σ[j]? = some (some v) := NdefX.slotAt_some (Option.some.inj (show some (NdefX.slotAt σ j) = some (some v) from ev))
      obtain ⟨c', hc', hv⟩ := L.val j y v hj hs k
      rw [hc] at hc'
      cases hc'
      exact hv
/-- the log of the questions, at the call -/
theorem Lent.log {f c' : Addr} {pm ctv : Value} {qn : Str} {params : Arguments} {body : Expr} {scope : Scope} {fr : List Str} {js : List Nat} (L : Lent X σ H1 H2)
    (hfree : ∀ y ∈ scope.names, y.2 = .free → X.env.scope.names.lookup y.1 = some .cell ∨ X.env.scope.names.lookup y.1 = some .free) (hfr : ∀ y ∈ fr, (y, NameKind.free) ∈ scope.names) (hjs : js.map (fun j => X.N[j]?) = fr.map some)
    (f1 : H1 f = some (Fz (PySem.W.kla_obj "<lambda>" qn params body scope (cloFrom X.env.cells scope.names []) pm c' ctv))) (c1 : H1 c' = some (CodeO c' qn)) {l : Lg} {qs : List V} (h4 : H1 q = some (.lst qs)) (h5 : LogAt H1 qs l) :
    AskLog f q c' pm ctv qn params body scope (cloFrom X.env.cells scope.names []) fr (js.map (NdefX.slotAt σ)) l H2 :=
  ⟨L.keep f1, L.keep c1, L.clos hfree hfr hjs, qs, L.keep h4, h5.tk (Same.tk L.same)⟩
end
theorem Tabs.kb {T : List (Addr × Str)} {q : Addr} {H H' : Hp} (t : Tabs T H) (k : KB q H H') (hq : ∀ p ∈ T, p.1 ≠ q) (hc : ∀ c x, H c = some (CodeO c x) → c ≠ q) : Tabs T H' := fun p hp => by
  obtain ⟨ps, h1, h2, h3⟩ := t p hp
  refine ⟨ps, k.keep _ _ (hq p hp) h1, h2, fun pos cv e => ?_⟩
  obtain ⟨c, e1, e2⟩ := h3 pos cv e
  exact ⟨c, e1, k.keep _ _ (hc c _ e2) e2⟩
theorem code_ne {H : Hp} {q c : Addr} {x : Str} {xs : List V} (e : H q = some (.lst xs)) (h : H c = some (CodeO c x)) : c ≠ q := fun z => by
  rw [z, e] at h
  exact absurd (Option.some.inj h) (by unfold CodeO; intro y; cases y)
theorem tbl_ne {T : List (Addr × Str)} {H : Hp} {q : Addr} {xs : List V} (e : H q = some (.lst xs)) (t : Tabs T H) : ∀ p ∈ T, p.1 ≠ q := fun p hp z => by
  obtain ⟨ps, h1, _⟩ := t p hp
  rw [z, e] at h1
  cases h1
theorem Tabs.kb1 {T : List (Addr × Str)} {q : Addr} {H H' : Hp} {xs : List V} (t : Tabs T H) (e : H q = some (.lst xs)) (k : KB q H H') : Tabs T H' := Tabs.kb t k (tbl_ne e t) fun _ _ h => code_ne e h
theorem Tabs.same {T : List (Addr × Str)} {H H' : Hp} (t : Tabs T H) (s : Same H H') : Tabs T H' := t.ext s
/-- behind a lambda's making all but the tables stands -/
theorem ExtN.keep {H H' : Hp} (e : ExtN H H') {b : Addr} {o : HO} (h : H b = some o) (n : ∀ ps, o ≠ .tbl ps) : H' b = some o := e b o h n
theorem lst_tbl {xs : List V} (ps : Array Value) : HO.lst xs ≠ .tbl ps := fun z => by cases z
theorem tup_tbl {xs : List V} (ps : Array Value) : HO.tup xs ≠ .tbl ps := fun z => by cases z
theorem ExtN.tk {H H' : Hp} (e : ExtN H H') : TK H H' := fun b xs h => e b _ h tup_tbl
theorem ExtN.sq {K : PySem.W.Frag} {H H' : Hp} {a : Addr} {xs : List V} (e : ExtN H H') (h : SqL K H a xs) : SqL K H' a xs := by
  rcases h with (h | ⟨o, h⟩) | h
  · exact .inl (.inl (e _ _ h lst_tbl))
  · exact .inl (.inr ⟨o, e _ _ h fun ps z => by cases z⟩)
  · exact .inr h
end Ord
namespace Ord
open PySem PySem.Spec PyProof.Rows L2 LamX
section
variable {P : Program} {w : World} {K : PySem.W.Frag} {mg : Str → Option Value} {base : Heap}
/-- mkOrc, the lambda read off the heap -/
def orcAt {H1 : Hp} {f q c' : Addr} {pm ctv : Value} {qn : Str} {params : Arguments} {body : Expr} {scope : Scope} {cl : List (Str × Addr)} (_f1 : H1 f = some (Fz (PySem.W.kla_obj "<lambda>" qn params body scope cl pm c' ctv)))
    (ps fr : List Str) (ws : List (Option V)) (ans : Lg → V → V → Int) (Dom : V → Hp → Prop) {t : TE}
    (S : NdefX.NScope (ps ++ fr) ps fr scope) (two : ps.length = 2) (hw : ws.length = fr.length)
    (hb : ∀ us : List Value, us.length = ps.length → bindArgs (PySem.W.kla_fn "<lambda>" qn params body scope cl pm (.ref c') ctv) ⟨us, []⟩ = pure (ps.zip us))
    (dom : ∀ {x : V} {H H' : Hp}, TK H H' → Dom x H → Dom x H')
    (B : ∀ (A : Around) (outer : List Env) (s : Shared) (H0 : Hp), Room 2 (A.deeper (NdefX.envF (lamNF qn params scope cl c') f s.heap.objs.size)) → PE (NdefX.ncx CX0 P w K mg base (ps ++ fr) (lamNF qn params scope cl c') f A outer s H0 E0).nox body t)
    (hq : ∀ (x y : V) (l : Lg) (qs : List V) (H : Hp) (Q : VK), H q = some (.lst qs) → LogAt H qs l → l.length < 100000 → Dom x H → Dom y H →
      (∀ a, H a = none → Q (.int (ans l x y)) (upd (upd H a (.tup [x, y])) q (.lst (qs ++ [.ref a])))) → t (some x :: some y :: ws) H Q) : Orc P w K mg base :=
  mkOrc (f := f) (q := q) (c' := c') (pm := pm) (ctv := ctv) (qn := qn) (params := params) (body := body) (scope := scope) (cl := cl) (ps := ps) (fr := fr) (ws := ws) ans Dom S two hw hb dom B hq
/-- as Fun.ok, the code object told -/
theorem Fun.okc {x qual : Str} {st : Stmt} {f : Addr} {fd : FuncData} {N ps : List Str} {k : Nat} {sp : Sp} {c : Addr} (F : Fun K x qual st f fd) (hc : fd.code = .ref c) (S : FnScope N ps (defScope st)) (len : ∀ vs H Q E, sp vs H Q E → vs.length = ps.length)
    (hbody : ∀ (A : Around) (outer : List Env) (s : Shared) (H : Hp) (vs : List V) (Q : VK) (E : XK), Room k (A.deeper (envOfC qual (defScope st) s.heap.objs.size f (.ref c))) → sp vs H Q E →
      ∃ t, PSs (cxOf CX0 P w K mg base N qual (defScope st) f (.ref c) A outer s H E).nox (defBody st) t ∧ t { nx := fun _ H' => Q .non H', rt := Q } (start N vs) H) : FnOk P w K mg base CX0 (k + 1) f fd ps sp := by
  obtain ⟨oc, od, kV, doc, pm, an, cdv, ct, osl, rfl, lk, hcd⟩ := F.ex
  have e : cdv = .ref c := hc
  subst e
  refine fn_of lk hcd S len fun A outer s H vs Q E hr hsp => ?_
  obtain ⟨t, h, q⟩ := hbody A outer s H vs Q E hr hsp
  exact ⟨t, h.nox, q⟩
end
end Ord
namespace Ord
open PySem PySem.Spec PyProof.Rows L2 LamX
/-- behind a call with the cells lent: what is known of the heap, the heap a letter -/
theorem lentQ_of {X : Cx} {Q : VK} {v : V} {H3 : Hp} {F : Hp → Prop} (f : F (strip X.env.cells H3)) (h : ∀ H4, F H4 → Q v H4) : lentQ X Q v H3 := h _ f
end Ord
namespace Ord
open PySem PySem.Spec PyProof.Rows L2 LamX
/-- q is no place where the list at a is tracked -/
def Apart (K : PySem.W.Frag) (q a : Addr) (xs : List V) : Prop := a ≠ q ∨ ∀ H, SqL K H a xs
theorem Apart.new {K : PySem.W.Frag} {H : Hp} {q a : Addr} {xs : List V} (h : SqL K H a xs) (n : H q = none) : Apart K q a xs := by
  rcases h with (h | ⟨o, h⟩) | h
  · exact .inl (ne_of_none h n)
  · exact .inl (ne_of_none h n)
  · exact .inr fun _ => .inr h
theorem Apart.kb {K : PySem.W.Frag} {H H' : Hp} {q a : Addr} {xs : List V} (p : Apart K q a xs) (h : SqL K H a xs) (k : KB q H H') : SqL K H' a xs := by
  rcases p with p | p
  · exact sq_keep h fun o e => k.keep a o p e
  · exact p H'
theorem Apart.wr {K : PySem.W.Frag} {H : Hp} {q a : Addr} {xs : List V} {o : HO} (p : Apart K q a xs) (h : SqL K H a xs) : SqL K (upd H q o) a xs := by
  rcases p with p | p
  · exact sq_keep h fun u e => by rw [upd_ne p]; exact e
  · exact p _
end Ord
namespace Ord
open PySem PySem.Spec PyProof.Rows L2 LamX
section
variable {X : Cx} {σ : L2.St} {H1 H2 H3 : Hp} {q : Addr}
theorem Lent.fzN (L : Lent X σ H1 H2) (hq : H1 q ≠ none) (k : KB q H2 H3) {b : Addr} (hb : b ∈ X.env.cells.map (·.2)) : ∃ o, H3 b = some (Fz o) := by
  obtain ⟨o, v, e, _⟩ := L.fz b hb
  exact ⟨o, k.keep b _ (fun z => hq (by rw [← z]; exact L.none_ b hb)) e⟩
theorem Lent.at4 (L : Lent X σ H1 H2) (hq : H1 q ≠ none) (k : KB q H2 H3) {b : Addr} {o : HO} (e : H3 b = some o) (n : ∀ ob, o ≠ Fz ob) : strip X.env.cells H3 b = some o := by
  have hb : b ∉ X.env.cells.map (·.2) := fun hb => by
    obtain ⟨ob, e'⟩ := L.fzN hq k hb
    rw [e] at e'
    exact n ob (Option.some.inj e')
  rw [strip_out hb]
  exact e
theorem Lent.tk4 (L : Lent X σ H1 H2) (hq : H1 q ≠ none) (k : KB q H2 H3) : TK H3 (strip X.env.cells H3) := fun b xs e => L.at4 hq k e tup_fz
theorem some_nn {H : Hp} {b : Addr} {o : HO} (e : H b = some o) : H b ≠ none := fun z => by
  rw [e] at z
  cases z
end
/-! ### an order that writes nothing down -/
section
variable {P : Program} {w : World} {K : PySem.W.Frag} {mg : Str → Option Value} {base : Heap}
def AnsLog (f c' : Addr) (pm ctv : Value) (qn : Str) (params : Arguments) (body : Expr) (scope : Scope) (cl : List (Str × Addr)) (fr : List Str) (ws : List (Option V)) (_ : Lg) (H : Hp) : Prop :=
  H f = some (Fz (PySem.W.kla_obj "<lambda>" qn params body scope cl pm c' ctv)) ∧ H c' = some (CodeO c' qn) ∧ ClosAt cl fr ws H
def orcNo {H1 : Hp} {f c' : Addr} {pm ctv : Value} {qn : Str} {params : Arguments} {body : Expr} {scope : Scope} {cl : List (Str × Addr)} (_f1 : H1 f = some (Fz (PySem.W.kla_obj "<lambda>" qn params body scope cl pm c' ctv)))
    (ps fr : List Str) (ws : List (Option V)) (ans : V → V → Int) (Dom : V → Hp → Prop) {t : TE}
    (S : NdefX.NScope (ps ++ fr) ps fr scope) (two : ps.length = 2) (hw : ws.length = fr.length)
    (hb : ∀ us : List Value, us.length = ps.length → bindArgs (PySem.W.kla_fn "<lambda>" qn params body scope cl pm (.ref c') ctv) ⟨us, []⟩ = pure (ps.zip us))
    (dom : ∀ {x : V} {H H' : Hp}, TK H H' → Dom x H → Dom x H')
    (B : ∀ (A : Around) (outer : List Env) (s : Shared) (H0 : Hp), Room 2 (A.deeper (NdefX.envF (lamNF qn params scope cl c') f s.heap.objs.size)) → PE (NdefX.ncx CX0 P w K mg base (ps ++ fr) (lamNF qn params scope cl c') f A outer s H0 E0).nox body t)
    (hq : ∀ (x y : V) (H : Hp) (Q : VK), Dom x H → Dom y H → Q (.int (ans x y)) H → t (some x :: some y :: ws) H Q) : Orc P w K mg base where
  f := f
  q := f
  ans := fun _ => ans
  Log := AnsLog f c' pm ctv qn params body scope cl fr ws
  Dom := Dom
  isf := fun {l H} h => ⟨_, _, _, _, h.1⟩
  isq := fun {l H} h => some_nn h.1
  stay := fun {l H H'} s h => ⟨s _ _ h.1 (.inr True.intro), s _ _ h.2.1 (.inr (by unfold CodeO; exact True.intro)), h.2.2.stay s⟩
  dom := dom
  run := by
    refine fnv_lam (ps := ps) (fr := fr) (N := ps ++ fr) (ws := ws) (pm := pm) (ctv := ctv) (c' := c') (q := qn) (params := params) (body := body) (scope := scope) (cl := cl) S hb (fun vs H Q h => ?_) fun A outer s H vs Q hr h => ⟨t, B A outer s _ hr, ?_⟩
    · obtain ⟨x, y, l, rfl, ⟨h1, h2, h3⟩, _⟩ := h
      exact ⟨two.symm, h1, h2, h3⟩
    · obtain ⟨x, y, l, rfl, ⟨h1, h2, h3⟩, hl, dx, dy, hQ⟩ := h
      have kS : TK H (strip cl H) := fun b xs e => by rw [strip_out (h3.out e tup_fz)]; exact e
      have es : NdefX.startF (ps ++ fr) [x, y] ws = some x :: some y :: ws := by
        unfold NdefX.startF
        rw [List.length_append, two, hw]
        simp
      rw [es]
      refine hq x y (strip cl H) _ (dom kS dx) (dom kS dy) fun hf => ?_
      have e : relend cl H (strip cl H) = H := by
        funext b
        by_cases hb : b ∈ cl.map (·.2)
        · exact if_pos hb
        · exact (if_neg hb).trans (strip_out hb)
      rw [e]
      exact hQ H (KB.refl _ _) ⟨h1, h2, h3⟩
theorem Lent.ans {X : Cx} {σ : L2.St} {H1 H2 : Hp} {f c' : Addr} {pm ctv : Value} {qn : Str} {params : Arguments} {body : Expr} {scope : Scope} {fr : List Str} {js : List Nat} {l : Lg} (L : Lent X σ H1 H2)
    (hfree : ∀ y ∈ scope.names, y.2 = .free → X.env.scope.names.lookup y.1 = some .cell ∨ X.env.scope.names.lookup y.1 = some .free) (hfr : ∀ y ∈ fr, (y, NameKind.free) ∈ scope.names) (hjs : js.map (fun j => X.N[j]?) = fr.map some)
    (f1 : H1 f = some (Fz (PySem.W.kla_obj "<lambda>" qn params body scope (cloFrom X.env.cells scope.names []) pm c' ctv))) (c1 : H1 c' = some (CodeO c' qn)) :
    AnsLog f c' pm ctv qn params body scope (cloFrom X.env.cells scope.names []) fr (js.map (NdefX.slotAt σ)) l H2 := ⟨L.keep f1, L.keep c1, L.clos hfree hfr hjs⟩
end
/-! ### a log as data -/
def pd2 (e : (Int × Int) × (Int × Int)) : PyData := .tuple [pd e.1, pd e.2]
def cc2 (c : V → Int × Int) (z : V × V) : (Int × Int) × (Int × Int) := (c z.1, c z.2)
theorem dp_log {K : PySem.W.Frag} {H : Hp} {c : V → Int × Int} : ∀ {ps : List V} {l : Lg}, LogAt H ps l → (∀ z ∈ l, El c z.1 H ∧ El c z.2 H) → DpAll K H ps (l.map fun z => pd2 (cc2 c z))
  | _, _, .nil, _ => .nil
  | _, _, .cons r t, h => by
    obtain ⟨p, rfl, e⟩ := r
    have hz := h _ List.mem_cons_self
    exact .cons (.tup (SqT.of e) (.cons (dp_el hz.1.1) (.cons (dp_el hz.2.1) .nil))) (dp_log t fun z hz => h z (List.mem_cons_of_mem _ hz))
theorem canLay_pd2 (e : (Int × Int) × (Int × Int)) : (pd2 e).canLay0 = true := by
  unfold pd2
  rw [PyData.canLay0, PyData.canLayAll0, PyData.canLayAll0, PyData.canLayAll0, canLay_pd, canLay_pd]
  rfl
theorem depth_pd2 (e : (Int × Int) × (Int × Int)) : (pd2 e).depth ≤ 8 := by
  have h1 := depth_pd e.1
  have h2 := depth_pd e.2
  unfold pd2
  rw [PyData.depth, PyData.depthAll, PyData.depthAll, PyData.depthAll]
  omega
theorem shaped_log {α : Type} (g : α → (Int × Int) × (Int × Int)) (xs : List α) : SeqAt.shaped (.list (xs.map fun x => pd2 (g x))) = true := by
  have a : ∀ xs : List α, PyData.canLayAll0 (xs.map fun x => pd2 (g x)) = true ∧ PyData.depthAll (xs.map fun x => pd2 (g x)) ≤ 8 := by
    intro xs
    induction xs with
    | nil => exact ⟨rfl, by simp [PyData.depthAll]⟩
    | cons x xs ih =>
      have h1 := depth_pd2 (g x)
      rw [List.map_cons, PyData.canLayAll0, PyData.depthAll, ih.1, canLay_pd2]
      refine ⟨rfl, ?_⟩
      have := ih.2
      omega
  refine shaped_of (by rw [PyData.canLay0]; exact (a xs).1) ?_
  rw [PyData.depth]
  have := (a xs).2
  omega
theorem eqv_log {α β : Type} (g : α → (Int × Int) × (Int × Int)) (g' : β → (Int × Int) × (Int × Int)) (xs : List α) (ys : List β) : PyData.eqv (.list (xs.map fun x => pd2 (g x))) (.list (ys.map fun x => pd2 (g' x))) = decide (xs.map g = ys.map g') := by
  have e2 : ∀ a b, PyData.eqv (pd2 a) (pd2 b) = decide (a = b) := fun a b => by
    unfold pd2
    rw [PyData.eqv, PyData.eqvAll, PyData.eqvAll, PyData.eqvAll, eqv_pd, eqv_pd]
    obtain ⟨a1, a2⟩ := a
    obtain ⟨b1, b2⟩ := b
    by_cases h1 : a1 = b1
    · by_cases h2 : a2 = b2
      · simp [h1, h2]
      · simp [h1, h2]
    · simp [h1]
  rw [PyData.eqv]
  induction xs generalizing ys with
  | nil => cases ys with
    | nil => rw [List.map_nil, List.map_nil, List.map_nil, PyData.eqvAll]; simp
    | cons y ys => rw [List.map_nil, List.map_cons, PyData.eqvAll]; simp
  | cons x xs ih => cases ys with
    | nil => rw [List.map_cons, List.map_nil, PyData.eqvAll]; simp
    | cons y ys =>
      rw [List.map_cons, List.map_cons, PyData.eqvAll, e2, ih]
      by_cases h1 : g x = g' y
      · by_cases h2 : xs.map g = ys.map g'
        · simp [h1, h2]
        · simp [h1, h2]
      · simp [h1]
end Ord

namespace Ord
open PySem PySem.Spec PyProof.Rows L2 LamX
/-- what stands from call to call: the order with its log, lists, elements -/
structure Held (q f c' : Addr) (ob : Obj) (qn : Str) (ps : List (Addr × List V)) (es : List V) (c : V → Int × Int) (l : Lg) (H : Hp) : Prop where
  hq : ∃ qs, H q = some (.lst qs) ∧ LogAt H qs l
  hf : H f = some (Fz ob)
  hc : H c' = some (CodeO c' qn)
  ls : ∀ p ∈ ps, H p.1 = some (.lst p.2) ∧ p.1 ≠ q
  el : Els c es H
variable {q f c' : Addr} {ob : Obj} {qn : Str} {ps : List (Addr × List V)} {es : List V} {c : V → Int × Int} {l l' : Lg} {H H' : Hp}
theorem Held.same (h : Held q f c' ob qn ps es c l H) (s : Same H H') : Held q f c' ob qn ps es c l H' := by
  obtain ⟨qs, h1, h2⟩ := h.hq
  exact ⟨⟨qs, s _ _ h1, h2.tk (Same.tk s)⟩, s _ _ h.hf, s _ _ h.hc, fun p hp => ⟨s _ _ (h.ls p hp).1, (h.ls p hp).2⟩, h.el.tk (Same.tk s)⟩
theorem Held.put (h : Held q f c' ob qn ps es c l H) {p : Addr} {zs : List V} (e : H p = some (.lst zs)) (n : p ≠ q) : Held q f c' ob qn ((p, zs) :: ps) es c l H :=
  ⟨h.hq, h.hf, h.hc, fun r hr => by
    rcases List.mem_cons.mp hr with z | z
    · rw [z]; exact ⟨e, n⟩
    · exact h.ls r z, h.el⟩
theorem Held.less {ps' : List (Addr × List V)} (h : Held q f c' ob qn ps es c l H) (s : ∀ p ∈ ps', p ∈ ps) : Held q f c' ob qn ps' es c l H := ⟨h.hq, h.hf, h.hc, fun r hr => h.ls r (s r hr), h.el⟩
theorem Held.nq (h : Held q f c' ob qn ps es c l H) {p : Addr} (n : H p = none) : p ≠ q := fun z => by
  obtain ⟨qs, h1, _⟩ := h.hq
  rw [z, h1] at n
  cases n
theorem Held.wr (h : Held q f c' ob qn ps es c l H) {qs : List V} {l' : Lg} (n : LogAt H qs l') : Held q f c' ob qn ps es c l' (upd H q (.lst qs)) := by
  obtain ⟨q0, h1, _⟩ := h.hq
  have k : TK H (upd H q (.lst qs)) := TK.wr h1 nf_lst
  have fq : f ≠ q := fun z => by
    have e := h.hf
    rw [z, h1] at e
    cases e
  have cq : c' ≠ q := code_ne h1 h.hc
  exact ⟨⟨qs, upd_same, n.tk k⟩, (upd_ne fq).trans h.hf, (upd_ne cq).trans h.hc, fun p hp => ⟨(upd_ne (h.ls p hp).2).trans (h.ls p hp).1, (h.ls p hp).2⟩, h.el.tk k⟩
theorem Held.lent {X : Cx} {σ : L2.St} {H8 H9 H10 : Hp} (h : Held q f c' ob qn ps es c l H8) (L : Lent X σ H8 H9) (kb : KB q H9 H10) (n : ∃ qs, H10 q = some (.lst qs) ∧ LogAt H10 qs l') : Held q f c' ob qn ps es c l' (strip X.env.cells H10) := by
  obtain ⟨q0, h1, _⟩ := h.hq
  obtain ⟨qs, h2, h3⟩ := n
  have nfz := lst_nfz (L.keep h1)
  have kbF := L.kb kb
  have fq : f ≠ q := fun z => by
    have e := h.hf
    rw [z, h1] at e
    cases e
  have cq : c' ≠ q := code_ne h1 h.hc
  exact ⟨⟨qs, L.at3 nfz kb h2 lst_fz, h3.tk (L.tk3 nfz kb)⟩, kbF.keep _ _ fq h.hf, kbF.keep _ _ cq h.hc, fun p hp => ⟨kbF.keep _ _ (h.ls p hp).2 (h.ls p hp).1, (h.ls p hp).2⟩, h.el.tk kbF.tk⟩
theorem Held.at3 {X : Cx} {σ : L2.St} {H8 H9 H10 : Hp} (h : Held q f c' ob qn ps es c l H8) (L : Lent X σ H8 H9) (kb : KB q H9 H10) {p : Addr} {o : HO} (e : H10 p = some o) (n : ∀ ob, o ≠ Fz ob) : strip X.env.cells H10 p = some o := by
  obtain ⟨q0, h1, _⟩ := h.hq
  exact L.at3 (lst_nfz (L.keep h1)) kb e n
theorem Held.all {X : Cx} {σ : L2.St} {H8 H9 : Hp} (h : Held q f c' ob qn ps es c l H8) (L : Lent X σ H8 H9) {xs : List V} (s : ∀ x ∈ xs, x ∈ es) : ∀ x ∈ xs, El c x H9 := fun x hx => (h.el x (s x hx)).tk (Same.tk L.same)
/-- two rows as data -/
theorem shaped_rows2 {α : Type} (g : α → Int × Int) (xs ys : List α) : SeqAt.shaped (.list [.list (xs.map fun x => pd (g x)), .list (ys.map fun x => pd (g x))]) = true := by
  have h1 := depthAll_pd g xs
  have h2 := depthAll_pd g ys
  refine shaped_of (by rw [PyData.canLay0, PyData.canLayAll0, PyData.canLayAll0, PyData.canLayAll0, PyData.canLay0, PyData.canLay0, canLayAll_pd, canLayAll_pd]; rfl) ?_
  rw [PyData.depth, PyData.depthAll, PyData.depthAll, PyData.depthAll, PyData.depth, PyData.depth]
  omega
theorem eqv_rows2 {α : Type} (g : α → Int × Int) (xs ys : List α) : PyData.eqv (.list [.list (xs.map fun x => pd (g x)), .list (ys.map fun x => pd (g x))]) (.list [.list (xs.map fun x => pd (g x)), .list (ys.map fun x => pd (g x))]) = true := by
  rw [PyData.eqv, PyData.eqvAll, PyData.eqvAll, PyData.eqvAll, eqv_row, eqv_row]
  simp
end Ord
namespace Ord
open PySem PySem.Spec PyProof.Rows L2 LamX
/-- the object and its name, as letters -/
theorem held_ex {q f c' : Addr} {ob : Obj} {qn : Str} {ps : List (Addr × List V)} {es : List V} {c : V → Int × Int} {l : Lg} {H : Hp} (h : Held q f c' ob qn ps es c l H) : ∃ ob' qn', ob' = ob ∧ qn' = qn ∧ Held q f c' ob' qn' ps es c l H := ⟨_, _, rfl, rfl, h⟩
end Ord

/-! a list that nobody writes: known for good; orders that look at it and make things of their own -/
namespace Ord
open PySem PySem.Spec PyProof.Rows L2 LamX
/-- the list at a stands for good -/
def SqF (K : PySem.W.Frag) (H : Hp) (a : Addr) (xs : List V) : Prop := (∃ o, H a = some (.frz o (.lst xs))) ∨ ∀ H', SqL K H' a xs
/-- what is locked as a list stands -/
def EK (H H' : Hp) : Prop := ∀ b u xs, H b = some (.frz u (.lst xs)) → H' b = some (.frz u (.lst xs))
theorem EK.same {H H' : Hp} (s : Same H H') : EK H H' := fun b u xs e => s _ _ e
theorem EK.trans {H H1 H2 : Hp} (a : EK H H1) (b : EK H1 H2) : EK H H2 := fun c u xs e => b c u xs (a c u xs e)
theorem EK.stay {q : Addr} {H H' : Hp} (s : Stay q H H') : EK H H' := fun b u xs e => s _ _ e (.inr True.intro)
theorem EK.kb {q : Addr} {H H' : Hp} (k : KB q H H') (hq : ∀ u xs, H q ≠ some (.frz u (.lst xs))) : EK H H' := fun b u xs e => k.keep _ _ (fun z => hq u xs (by rw [← z]; exact e)) e
theorem EK.wr {H : Hp} {q : Addr} {o u : HO} (e : H q = some u) (n : ∀ w xs, u ≠ .frz w (.lst xs)) : EK H (upd H q o) := fun b w xs h => by
  rw [upd_ne (fun z => by
    rw [z, e] at h
    exact n w xs (Option.some.inj h))]
  exact h
theorem EK.strip {cl : List (Str × Addr)} {H : Hp} (h : ∀ b ∈ cl.map (·.2), ∃ ob, H b = some (Fz ob)) : EK H (strip cl H) := fun b u xs e => by
  rw [strip_out (fun hb => by
    obtain ⟨ob, e'⟩ := h b hb
    rw [e] at e'
    cases e')]
  exact e
theorem lst_nfl {q : Addr} {H : Hp} {ys : List V} (e : H q = some (.lst ys)) (u : Obj) (xs : List V) : H q ≠ some (.frz u (.lst xs)) := fun z => by
  rw [e] at z
  cases z
theorem SqF.ek {K : PySem.W.Frag} {H H' : Hp} {a : Addr} {xs : List V} (h : SqF K H a xs) (k : EK H H') : SqF K H' a xs := h.elim (fun ⟨o, e⟩ => .inl ⟨o, k _ _ _ e⟩) .inr
theorem SqF.sq {K : PySem.W.Frag} {H : Hp} {a : Addr} {xs : List V} (h : SqF K H a xs) : SqL K H a xs := h.elim (fun ⟨o, e⟩ => .inl (.inr ⟨o, e⟩)) fun h => h H
theorem SqF.ext {K : PySem.W.Frag} {H H' : Hp} {a : Addr} {xs : List V} (h : SqF K H a xs) (e : ExtN H H') : SqF K H' a xs := h.ek fun b u ys q => e _ _ q fun ps z => by cases z
/-- a def that is shown for locked lists is shown for all -/
theorem fn_frz {P : Program} {w : World} {K : PySem.W.Frag} {mg : Str → Option Value} {base : Heap} {k : Nat} {f : Addr} {fd : FuncData} {ps : List Str} {sp sp' : Sp} (F : FnOk P w K mg base CX0 k f fd ps sp') (len : ∀ vs H Q E, sp vs H Q E → vs.length = ps.length)
    (h : ∀ vs H Q E, sp vs H Q E → sp' vs H Q E ∨ ∃ (a : Addr) (xs : List V), H a = some (.lst xs) ∧ ∀ o, sp' vs (upd H a (.frz o (.lst xs))) Q E) : FnOk P w K mg base CX0 k f fd ps sp := by
  refine ⟨len, fun A outer s H args us vs Q E hr e0 hb r hs => ?_⟩
  rcases h vs H Q E hs with h | ⟨a, xs, ha, h⟩
  · exact F.run A outer s H args us vs Q E hr e0 hb r h
  · obtain ⟨zl, its, n, rv, hl⟩ := e0.hok a _ ha
    obtain ⟨H2, e2⟩ : ∃ H2, H2 = upd H a (.frz { cls := .type "list", data := .seq its.toArray n } (.lst xs)) := ⟨_, rfl⟩
    have hn : ∀ b, H b = none → H2 b = none := fun b e => by
      rw [e2, upd_ne (fun z => by
        rw [z, ha] at e
        cases e)]
      exact e
    have hk : ∀ b o, H b = some o → o ≠ .lst xs → H2 b = some o := fun b o e no => by
      rw [e2, upd_ne (fun z => by
        rw [z, ha] at e
        exact no (Option.some.inj e).symm)]
      exact e
    have hok2 : HOk P w H2 s.heap := fun b y e => by
      by_cases hb : b = a
      · rw [hb, e2, upd_same] at e
        cases e
        rw [hb]
        exact ⟨hl, zl, its, n, rv, hl⟩
      · rw [e2, upd_ne hb] at e
        exact (e0.hok b y e).stay (fun _ _ _ q => q) (fun c q => hk c _ q fun z => by cases z) fun c xs q => hk c _ q fun z => by cases z
    have g := F.run A outer s H2 args us vs Q E hr ⟨e0.frames, e0.mod, fun b o e => ⟨(e0.bs b o e).1, hn _ (e0.bs b o e).2⟩, e0.bsz, e0.funs, fun b hb => hn _ (e0.frf b hb), hok2, e0.bare⟩ hb r (by rw [e2]; exact h _)
    refine codeAny_mono g fun r s' hq => ?_
    cases r with
    | error e => exact False.elim hq
    | ok fl =>
      cases fl with
      | ret u =>
        obtain ⟨v, H', os, bare, U, hok, rv, q⟩ := hq
        exact ⟨v, H', os, bare, ⟨fun b o e n => U.keep b o e (hn b n), fun b o e n => U.slot b o e (hn b n), fun b o e n => U.free b o e (hn b n), U.there, fun b xs e => U.tups b xs (hk b _ e fun z => by cases z), fun b o y e => U.frzs b o y (hk b _ e fun z => by cases z), fun b ps e => U.tbls b ps (hk b _ e fun z => by cases z)⟩, hok, rv, q⟩
      | next => exact False.elim hq
      | brk => exact False.elim hq
      | cont => exact False.elim hq
/-- the end of a lambda's call that writes a question down and makes things of its own -/
theorem relend_ask2 {cl : List (Str × Addr)} {fr : List Str} {ws : List (Option V)} {H H3 : Hp} {q t : Addr} {x y : V} {ps : List V} (C : ClosAt cl fr ws H) (hq : H q = some (.lst ps)) (ht : strip cl H t = none)
    (s3 : Same (upd (upd (strip cl H) t (.tup [x, y])) q (.lst (ps ++ [.ref t]))) H3) (hf : ∀ b, b ∈ cl.map (·.2) → H3 b = Option.none) :
    KB q H (relend cl H H3) ∧ relend cl H H3 q = some (.lst (ps ++ [.ref t])) ∧ relend cl H H3 t = some (.tup [x, y]) ∧ H t = Option.none := by
  have qc : q ∉ cl.map (·.2) := C.out hq lst_fz
  have hqs : strip cl H q = some (.lst ps) := by rw [strip_out qc]; exact hq
  have qt : q ≠ t := ne_of_none hqs ht
  have e3 : H3 t = some (.tup [x, y]) := s3 _ _ (by rw [upd_ne qt.symm, upd_same])
  have tc : t ∉ cl.map (·.2) := fun z => by
    have e := hf t z
    rw [e3] at e
    cases e
  have ht' : H t = none := by rw [strip_out tc] at ht; exact ht
  have inR : ∀ b, b ∈ cl.map (·.2) → relend cl H H3 b = H b := fun b hb => if_pos hb
  have outR : ∀ b, b ∉ cl.map (·.2) → relend cl H H3 b = H3 b := fun b hb => if_neg hb
  have keep : ∀ b o, b ≠ q → H b = some o → relend cl H H3 b = some o := fun b o hb e => by
    by_cases hc : b ∈ cl.map (·.2)
    · rw [inR b hc]
      exact e
    · rw [outR b hc]
      refine s3 _ _ ?_
      rw [upd_ne hb, upd_ne (ne_of_none e ht'), strip_out hc]
      exact e
  refine ⟨⟨keep, fun b xs e => keep b _ (fun z => by
    rw [z, hq] at e
    cases e) e⟩, by rw [outR q qc]; exact s3 _ _ upd_same, by rw [outR t tc]; exact e3, ht'⟩
section
variable {P : Program} {w : World} {K : PySem.W.Frag} {mg : Str → Option Value} {base : Heap}
/-- an order that looks at what is locked (Ex) and writes its questions down; read off the heap -/
def orcX {H1 : Hp} {f q c' : Addr} {pm ctv : Value} {qn : Str} {params : Arguments} {body : Expr} {scope : Scope} {cl : List (Str × Addr)} (_f1 : H1 f = some (Fz (PySem.W.kla_obj "<lambda>" qn params body scope cl pm c' ctv)))
    (ps fr : List Str) (ws : List (Option V)) (ans : Lg → V → V → Int) (Dom : V → Hp → Prop) (Ex : Hp → Prop) {t : TE}
    (S : NdefX.NScope (ps ++ fr) ps fr scope) (two : ps.length = 2) (hw : ws.length = fr.length)
    (hb : ∀ us : List Value, us.length = ps.length → bindArgs (PySem.W.kla_fn "<lambda>" qn params body scope cl pm (.ref c') ctv) ⟨us, []⟩ = pure (ps.zip us))
    (dom : ∀ {x : V} {H H' : Hp}, TK H H' → Dom x H → Dom x H') (exk : ∀ {H H' : Hp}, EK H H' → Ex H → Ex H')
    (B : ∀ (A : Around) (outer : List Env) (s : Shared) (H0 : Hp), Room 2 (A.deeper (NdefX.envF (lamNF qn params scope cl c') f s.heap.objs.size)) → PE (NdefX.ncx CX0 P w K mg base (ps ++ fr) (lamNF qn params scope cl c') f A outer s H0 E0).nox body t)
    (hq : ∀ (x y : V) (l : Lg) (qs : List V) (H : Hp) (Q : VK), H q = some (.lst qs) → LogAt H qs l → l.length < 100000 → Ex H → Dom x H → Dom y H →
      (∀ a H', H a = none → Same (upd (upd H a (.tup [x, y])) q (.lst (qs ++ [.ref a]))) H' → Q (.int (ans l x y)) H') → t (some x :: some y :: ws) H Q) : Orc P w K mg base where
  f := f
  q := q
  ans := ans
  Log := fun l H => AskLog f q c' pm ctv qn params body scope cl fr ws l H ∧ Ex H
  Dom := Dom
  isf := fun {l H} h => ⟨_, _, _, _, h.1.1⟩
  isq := fun {l H} h z => by
    obtain ⟨⟨_, _, _, qs, e, _⟩, _⟩ := h
    rw [z] at e
    cases e
  stay := fun {l H H'} s h => by
    obtain ⟨⟨h1, h2, h3, qs, h4, h5⟩, h6⟩ := h
    exact ⟨⟨s _ _ h1 (.inr True.intro), s _ _ h2 (.inr (by unfold CodeO; exact True.intro)), h3.stay s, qs, s _ _ h4 (.inl rfl), h5.tk s.tk⟩, exk (EK.stay s) h6⟩
  dom := dom
  run := by
    refine fnv_lam (ps := ps) (fr := fr) (N := ps ++ fr) (ws := ws) (pm := pm) (ctv := ctv) (c' := c') (q := qn) (params := params) (body := body) (scope := scope) (cl := cl) S hb (fun vs H Q h => ?_) fun A outer s H vs Q hr h => ⟨t, B A outer s _ hr, ?_⟩
    · obtain ⟨x, y, l, rfl, ⟨⟨h1, h2, h3, _⟩, _⟩, _⟩ := h
      exact ⟨two.symm, h1, h2, h3⟩
    · obtain ⟨x, y, l, rfl, ⟨⟨h1, h2, h3, qs, h4, h5⟩, h6⟩, hl, dx, dy, hQ⟩ := h
      have qc := h3.out h4 lst_fz
      have hqs : strip cl H q = some (.lst qs) := by rw [strip_out qc]; exact h4
      have kS : TK H (strip cl H) := fun b xs e => by rw [strip_out (h3.out e tup_fz)]; exact e
      have kE : EK H (strip cl H) := EK.strip fun b hb => by
        obtain ⟨ob, v, e, _⟩ := h3.all b hb
        exact ⟨ob, e⟩
      have es : NdefX.startF (ps ++ fr) [x, y] ws = some x :: some y :: ws := by
        unfold NdefX.startF
        rw [List.length_append, two, hw]
        simp
      rw [es]
      refine hq x y l qs (strip cl H) _ hqs (h5.tk kS) hl (exk kE h6) (dom kS dx) (dom kS dy) fun a H3 ha s3 hf => ?_
      obtain ⟨kb, e1, e2, e3⟩ := relend_ask2 h3 h4 ha s3 hf
      have fq : f ≠ q := fun z => by
        rw [z, h4] at h1
        cases h1
      have cq : c' ≠ q := fun z => by
        rw [z, h4] at h2
        exact absurd (Option.some.inj h2).symm (by unfold CodeO; intro y; cases y)
      have cl3 : ClosAt cl fr ws (relend cl H H3) := by
        refine ⟨h3.len, fun b hb => ?_, h3.inj, fun i y e => ?_⟩
        · obtain ⟨o, v, e, r⟩ := h3.all b hb
          exact ⟨o, v, by rw [show relend cl H _ b = H b from if_pos hb]; exact e, r⟩
        · obtain ⟨c, hc, hv⟩ := h3.has i y e
          refine ⟨c, hc, fun v ev => ?_⟩
          obtain ⟨o, u, e4, r⟩ := hv v ev
          exact ⟨o, u, by rw [show relend cl H _ c = H c from if_pos (lookup_mem2 hc)]; exact e4, r⟩
      exact hQ _ kb ⟨⟨kb.keep _ _ fq h1, kb.keep _ _ cq h2, cl3, _, e1, (h5.tk kb.tk).snoc e2⟩, exk (EK.kb kb (lst_nfl h4)) h6⟩
end
end Ord
namespace Ord
open PySem PySem.Spec PyProof.Rows L2 LamX
/-! what stands from call to call, and the script -/
def HeldS (K : PySem.W.Frag) (sc : Addr) (ns : List V) (q f c' : Addr) (ob : Obj) (qn : Str) (ps : List (Addr × List V)) (es : List V) (c : V → Int × Int) (l : Lg) (H : Hp) : Prop := Held q f c' ob qn ps es c l H ∧ SqF K H sc ns
section
variable {K : PySem.W.Frag} {sc : Addr} {ns : List V} {q f c' : Addr} {ob : Obj} {qn : Str} {ps : List (Addr × List V)} {es : List V} {c : V → Int × Int} {l l' : Lg} {H H' : Hp}
theorem HeldS.same (h : HeldS K sc ns q f c' ob qn ps es c l H) (s : Same H H') : HeldS K sc ns q f c' ob qn ps es c l H' := ⟨h.1.same s, h.2.ek (EK.same s)⟩
theorem HeldS.put (h : HeldS K sc ns q f c' ob qn ps es c l H) {p : Addr} {zs : List V} (e : H p = some (.lst zs)) (n : p ≠ q) : HeldS K sc ns q f c' ob qn ((p, zs) :: ps) es c l H := ⟨h.1.put e n, h.2⟩
theorem HeldS.wr (h : HeldS K sc ns q f c' ob qn ps es c l H) {qs : List V} {l' : Lg} (n : LogAt H qs l') : HeldS K sc ns q f c' ob qn ps es c l' (upd H q (.lst qs)) := by
  obtain ⟨q0, h1, _⟩ := h.1.hq
  exact ⟨h.1.wr n, h.2.ek (EK.wr h1 fun w xs z => by cases z)⟩
theorem HeldS.lent {X : Cx} {σ : L2.St} {H8 H9 H10 : Hp} (h : HeldS K sc ns q f c' ob qn ps es c l H8) (L : Lent X σ H8 H9) (kb : KB q H9 H10) (n : ∃ qs, H10 q = some (.lst qs) ∧ LogAt H10 qs l') : HeldS K sc ns q f c' ob qn ps es c l' (strip X.env.cells H10) := by
  obtain ⟨q0, h1, _⟩ := h.1.hq
  exact ⟨h.1.lent L kb n, ((h.2.ek (EK.same L.same)).ek (EK.kb kb (lst_nfl (L.keep h1)))).ek (EK.strip fun b hb => L.fzK (lst_nfz (L.keep h1)) kb hb)⟩
theorem HeldS.less {ps' : List (Addr × List V)} (h : HeldS K sc ns q f c' ob qn ps es c l H) (s : ∀ p ∈ ps', p ∈ ps) : HeldS K sc ns q f c' ob qn ps' es c l H := ⟨h.1.less s, h.2⟩
theorem heldS_ex (h : HeldS K sc ns q f c' ob qn ps es c l H) : ∃ ob' qn', ob' = ob ∧ qn' = qn ∧ HeldS K sc ns q f c' ob' qn' ps es c l H := ⟨_, _, rfl, rfl, h⟩
end
end Ord
namespace Ord
open PySem PySem.Spec PyProof.Rows L2 LamX
theorem AskLog.clr {f q c' : Addr} {pm ctv : Value} {qn : Str} {params : Arguments} {body : Expr} {scope : Scope} {cl : List (Str × Addr)} {fr : List Str} {ws : List (Option V)} {l : Lg} {H : Hp} (h : AskLog f q c' pm ctv qn params body scope cl fr ws l H) :
    ∃ qs, H q = some (.lst qs) ∧ LogAt H qs l ∧ AskLog f q c' pm ctv qn params body scope cl fr ws [] (upd H q (.lst [])) := by
  obtain ⟨h1, h2, h3, qs, h4, h5⟩ := h
  have fq : f ≠ q := fun z => by
    rw [z, h4] at h1
    cases h1
  have cq : c' ≠ q := code_ne h4 h2
  refine ⟨qs, h4, h5, (upd_ne fq).trans h1, (upd_ne cq).trans h2, ⟨h3.len, fun b hb => ?_, h3.inj, fun i y e => ?_⟩, [], upd_same, .nil⟩
  · obtain ⟨ob, v, e, r⟩ := h3.all b hb
    exact ⟨ob, v, (upd_ne fun z => lst_nfz h4 ob (by rw [← z]; exact e)).trans e, r⟩
  · obtain ⟨cl, hc1, hv⟩ := h3.has i y e
    refine ⟨cl, hc1, fun v ev => ?_⟩
    obtain ⟨ob, u, e, r⟩ := hv v ev
    exact ⟨ob, u, (upd_ne fun z => lst_nfz h4 ob (by rw [← z]; exact e)).trans e, r⟩
end Ord
namespace Ord
open PySem PySem.Spec PyProof.Rows L2 LamX
section
variable {P : Program} {w : World} {K : PySem.W.Frag} {mg : Str → Option Value} {base : Heap}
/-- the log may be cleared -/
def Orc.Clr (O : Orc P w K mg base) : Prop := ∀ l H, O.Log l H → ∃ qs, H O.q = some (.lst qs) ∧ LogAt H qs l ∧ O.Log [] (upd H O.q (.lst []))
/-- all pairs may be asked of -/
def Orc.DomE (O : Orc P w K mg base) : Prop := ∀ x H, El (cnt H) x H → O.Dom x H
theorem KB.wrq {q : Addr} {H : Hp} {ys zs : List V} (e : H q = some (.lst ys)) : KB q H (upd H q (.lst zs)) :=
  ⟨fun b o n h => by rw [upd_ne n]; exact h, TK.wr e nf_lst⟩
end
end Ord

set_option pp.deepTerms false
set_option pp.maxSteps 1500
namespace Ord
open PySem PySem.Spec PyProof.Rows L2 LamX
theorem sum_one : ∀ ys : List Str, (∀ y ∈ ys, y.length = 1) → (ys.map (·.length)).sum = ys.length
  | [], _ => rfl
  | y :: ys, h => by
    rw [List.map_cons, List.sum_cons, h y List.mem_cons_self, sum_one ys fun z hz => h z (List.mem_cons_of_mem _ hz), List.length_cons]
    omega
/-- what stands while the words are gathered -/
structure Fk (T : List (Addr × Str)) (q rw wd : Addr) (rs : List V) (ws : List V) (H : Hp) : Prop where
  hq : H q = some (.lst [])
  hr : H rw = some (.lst rs)
  hw : H wd = some (.lst ws)
  ht : Tabs T H
  n1 : q ≠ wd
  n2 : rw ≠ wd
section
variable {T : List (Addr × Str)} {q rw wd : Addr} {rs ws : List V} {H H' : Hp}
theorem Fk.same (h : Fk T q rw wd rs ws H) (s : Same H H') : Fk T q rw wd rs ws H' := ⟨s _ _ h.hq, s _ _ h.hr, s _ _ h.hw, Tabs.same h.ht s, h.n1, h.n2⟩
theorem Tabs.wr {T : List (Addr × Str)} {H : Hp} {wd : Addr} {xs ys : List V} (e : H wd = some (.lst xs)) (h : Tabs T H) : Tabs T (upd H wd (.lst ys)) := fun p hp => by
  obtain ⟨ps, h1, h2, h3⟩ := h p hp
  refine ⟨ps, (upd_ne (fun z => by rw [z, e] at h1; cases h1)).trans h1, h2, fun pos cv hc => ?_⟩
  obtain ⟨c, e1, e2⟩ := h3 pos cv hc
  exact ⟨c, e1, (upd_ne (code_ne e e2)).trans e2⟩
theorem Fk.app (h : Fk T q rw wd rs ws H) (x : V) : Fk T q rw wd rs (ws ++ [x]) (upd H wd (.lst (ws ++ [x]))) := ⟨(upd_ne h.n1).trans h.hq, (upd_ne h.n2).trans h.hr, upd_same, Tabs.wr h.hw h.ht, h.n1, h.n2⟩
theorem Fk.ext (h : Fk T q rw wd rs ws H) (x : ExtN H H') (t : Tabs T H') : Fk T q rw wd rs ws H' := ⟨x _ _ h.hq lst_tbl, x _ _ h.hr lst_tbl, x _ _ h.hw lst_tbl, t, h.n1, h.n2⟩
end
section
variable {P : Program} {w : World} {K : PySem.W.Frag} {mg : Str → Option Value} {base : Heap} {CN CM CO CE CP : Addr}
def N_law : List Str := ["_law_script", "_law_k", "_law_words", "_law_asked", "_law_order", "_law_many", "_law_row", "_law_place"]
theorem sc_law : FnScope ["_law_script", "_law_k", "_law_words", "_law_asked", "_law_order", "_law_many", "_law_row", "_law_place"] ["_law_script"] (defScope st_law) := ⟨rfl, rfl, rfl, by decide +kernel, rfl, by decide +kernel, by decide +kernel⟩
def qlam : Str := "law.<locals>.<lambda>"
def spLaw (K : PySem.W.Frag) (Pt : Addr) : Sp := fun vs H Q _ => ∃ (a : Addr) (ns : List Int), vs = [.ref a] ∧ SqL K H a (ns.map V.int) ∧ ns.length ≤ 63 ∧ H Pt = some (.tbl #[]) ∧ ∀ H', Q (.bl true) H'
def spLawF (K : PySem.W.Frag) (Pt : Addr) : Sp := fun vs H Q _ => ∃ (a : Addr) (ns : List Int), vs = [.ref a] ∧ SqF K H a (ns.map V.int) ∧ ns.length ≤ 63 ∧ H Pt = some (.tbl #[]) ∧ ∀ H', Q (.bl true) H'
theorem ok_lawF {c Pt : Addr} (d_law : Df K mg "law" st_law ["_law_script"]) (d_many_of : Df K mg "many_of" st_many_of ["node"]) (d_pop : Df K mg "pop" st_pop ["heap", "order"]) (d_least : Df K mg "least" st_least ["row", "order"]) (d_ends : Df K mg "ends" st_ends ["row", "order"]) (d_nth : Df K mg "nth" st_nth ["row", "k", "order"]) (d__law_cell : Df K mg "_law_cell" st__law_cell ["_law_script", "_law_k"]) (d__law_drawn : Df K mg "_law_drawn" st__law_drawn ["_law_cell_here", "_law_k"]) (d__law_word : Df K mg "_law_word" st__law_word ["_law_rule"]) (d_Map : Di K mg CM "Map" "Map.__init__" st_Map___init__ ["self", "order"]) (d_Map_size : Dm K CM "size" "Map.size" st_Map_size ["self"]) (d_Map_found : Dm K CM "found" "Map.found" st_Map_found ["self", "key"]) (d_Map_get : Dm K CM "get" "Map.get" st_Map_get ["self", "key"]) (d_Map_at : Dm K CM "at" "Map.at" st_Map_at ["self", "place"]) (TN : NodeT K CN) (TM : MapT K CM) (TE : ExcT K mg "NoElement" CE) (TP : ExcT K mg "NoPlace" CP) (W0 : ExcW K mg CO CE CP)
    (mLen : mg "len" = none) (mList : mg "list" = none) (mInt : mg "int" = none) (mRange : mg "range" = none) (mIsi : mg "isinstance" = none) (mStr : mg "str" = none) (mVE : mg "ValueError" = none)
    (TB : TabB base mg c Pt) (hc : d_law.fd.code = .ref c) : FnOk P w K mg base CX0 40 d_law.f d_law.fd ["_law_script"] (spLawF K Pt) := by
  have G__law_cell : FnOk P w K mg base CX0 1 d__law_cell.f d__law_cell.fd ["_law_script", "_law_k"] (spCellK K) := ok_cell d__law_cell mLen
  have G__law_drawn : FnOk P w K mg base CX0 1 d__law_drawn.f d__law_drawn.fd ["_law_cell_here", "_law_k"] spDrawn := ok_drawn d__law_drawn
  have G_Map : FnOk P w K mg base CX0 1 d_Map.f d_Map.fd ["self", "order"] (spMapI CM) := ok_Map d_Map TM
  have G_pop : FnOk P w K mg base (L2.CX P w) 1 d_pop.f d_pop.fd ["heap", "order"] (spNone1 CE) := ok_popX d_pop TE
  have G_least : FnOk P w K mg base (L2.CX P w) 1 d_least.f d_least.fd ["row", "order"] (spNone1 CE) := ok_leastX d_least TE
  have G_ends : FnOk P w K mg base (L2.CX P w) 1 d_ends.f d_ends.fd ["row", "order"] (spNone1 CE) := ok_endsX d_ends TE
  have G_nth : FnOk P w K mg base (L2.CX P w) 1 d_nth.f d_nth.fd ["row", "k", "order"] (spNthX K CP) := ok_nthX d_nth TP mLen
  have G_Map_get : FnOk P w K mg base (L2.CX P w) 2 d_Map_get.f d_Map_get.fd ["self", "key"] (spGet0 CM CE) := ok_get0 d_Map_get d_Map_found TM TE
  have G_Map_at : FnOk P w K mg base (L2.CX P w) 3 d_Map_at.f d_Map_at.fd ["self", "place"] (spAt0 CM CP) := ok_at0 d_Map_at d_Map_size d_many_of TN TM TP
  refine Fun.okc d_law.F hc sc_law (fun vs H Q E h => ?_) (fun A outer s H vs Q E hr h => ?_)
  · obtain ⟨a, ns, rfl, _⟩ := h
    rfl
  · obtain ⟨a, ns, rfl, hS, hz, hP, hQ⟩ := h
    have nd := sc_law.nd
    obtain ⟨X, eX⟩ : ∃ X, X = (cxOf CX0 P w K mg base N_law "law" (defScope st_law) d_law.f (.ref c) A outer s H E).nox := ⟨_, rfl⟩
    subst eX
    refine ⟨_, (pss_cons (ps_set (i := 2) nd rfl (Or.inl rfl) (pe_join pe_str (pe_lc (own := [("_law_k", 1)]) (g := gName 1) rfl nd (pi_range1 (by rfl) mRange (pa_cons (pe_op op_modE (pe_cd (d := d__law_cell) G__law_cell (hr.mono (by decide)) (pa_cons (pv 0) (pa_cons pe_int pa_nil))) pe_int) pa_nil)) (blkOk_by (own := [("_law_k", 1)]) (N := N_law) (sc := defScope st_law) (by decide +kernel)) (fun _ _ _ _ _ => pg_name (i := 1) nd rfl (Or.inl rfl)) (fun _ _ _ _ _ => pts_nil) (fun _ _ _ _ _ => (pe_ix (ix_strK (K := K)) pe_str (pe_op op_modE (pe_cd (d := d__law_drawn) G__law_drawn (hr.mono (by decide)) (pa_cons (pe_cd (d := d__law_cell) G__law_cell (hr.mono (by decide)) (pa_cons (pv 0) (pa_cons (pv 1) pa_nil))) (pa_cons (pv 1) pa_nil))) pe_int) (fun _ _ => rfl))))))
  (pss_cons (ps_if (PW.pt (pw_or (pt_cmpR op_ne (pe_strX PySem.F.excBase_ValueError TE.xP TE.g TE.kP (by rfl) (pv 2) (by rfl) mStr W0.sE TE.bP (hu2 hr)) (pv 2) (nomark _)) (pw_or1 (pt_cmpR op_ne (pe_strX PySem.F.excBase_ValueError TP.xP TP.g TP.kP (by rfl) (pv 2) (by rfl) mStr W0.sP TP.bP (hu2 hr)) (pv 2) (nomark _)))))
    (pss_one (ps_ret pe_bl))
    pss_nil)
  (pss_cons (ps_if (PW.pt (pw_or (pt_val (pe_isX PySem.F.excBase_ValueError TE.xP TE.g TE.kP (by rfl) (pv 2) (by rfl) mIsi (by rfl) TP.g W0.cE W0.kEP)) (pw_or1 (pt_val (pe_isX PySem.F.excBase_ValueError TP.xP TP.g TP.kP (by rfl) (pv 2) (by rfl) mIsi (by rfl) TE.g W0.cP W0.kPE)))))
    (pss_one (ps_ret pe_bl))
    pss_nil)
  (pss_cons (ps_set (i := 3) nd rfl (Or.inr rfl) (pe_lst pa_nil))
  (pss_cons (ps_set (i := 4) nd rfl (Or.inr rfl) (pe_lam (T := [(Pt, qlam)]) (q := qlam) (show ("law.<locals>." : Str) ++ "<lambda>" = qlam by decide +kernel) TB rfl (List.mem_singleton.mpr rfl) (fun p hp _ => by rw [List.mem_singleton.mp hp]) rfl (NdefX.ndef_free (sc := defScope st_law) (fr := ["_law_asked"]) (by decide +kernel))))
  (pss_cons (ps_set (i := 5) nd rfl (Or.inl rfl) (pe_op op_modE (pe_cd (d := d__law_cell) G__law_cell (hr.mono (by decide)) (pa_cons (pv 0) (pa_cons pe_int pa_nil))) pe_int))
  (pss_cons (ps_set (i := 6) nd rfl (Or.inr rfl) (pe_listRg rfl (by rfl) mList (prg_1 (by rfl) mRange (pv 5))))
  (pss_cons (ps_set (i := 7) nd rfl (Or.inr rfl) (pe_ix ix_list (pe_lst (pa_cons (pe_op op_addE (pv 5) (pe_op op_modE (pe_cd (d := d__law_cell) G__law_cell (hr.mono (by decide)) (pa_cons (pv 0) (pa_cons pe_int pa_nil))) pe_int)) (pa_cons (pe_op op_subE (pe_op op_subE pe_int pe_int) (pe_op op_modE (pe_cd (d := d__law_cell) G__law_cell (hr.mono (by decide)) (pa_cons (pv 0) (pa_cons pe_int pa_nil))) pe_int)) pa_nil))) (pe_op op_modE (pe_cd (d := d__law_cell) G__law_cell (hr.mono (by decide)) (pa_cons (pv 0) (pa_cons pe_int pa_nil))) pe_int) (fun _ _ => rfl)))
  (pss_cons (ps_set (i := 2) nd rfl (Or.inl rfl) (pe_lst (pa_cons (pe_word (k := 10) (T := [(Pt, qlam)]) (q := qlam) (t := _) d__law_word W0 mIsi mInt mVE (show ("law.<locals>." : Str) ++ "<lambda>" = qlam by decide +kernel) TB rfl (List.mem_singleton.mpr rfl) (fun p hp _ => by rw [List.mem_singleton.mp hp]) (hr.mono (by decide)) (show LamS (defScope st_law) _ from lamS_by (by decide +kernel)) rfl (fun _ _ _ _ _ => rfl) (fun A outer s H E f c hr => (pe_cdS (d := d_pop) G_pop (hr.mono (by decide)) (fun σ => passAt (takes_of rfl rfl rfl rfl) σ) (pa_cons (pe_lst pa_nil) (pa_cons (pv 4) pa_nil))))) pa_nil)))
  (pss_cons (ps_expr (pe_bm PySem.F.plainAttrs_list PySem.F.slot_list_append PySem.F.type_list_append mt_append (pv 2) (pa_cons (pe_word (k := 10) (T := [(Pt, qlam)]) (q := qlam) (t := _) d__law_word W0 mIsi mInt mVE (show ("law.<locals>." : Str) ++ "<lambda>" = qlam by decide +kernel) TB rfl (List.mem_singleton.mpr rfl) (fun p hp _ => by rw [List.mem_singleton.mp hp]) (hr.mono (by decide)) (show LamS (defScope st_law) _ from lamS_by (by decide +kernel)) rfl (fun _ _ _ _ _ => rfl) (fun A outer s H E f c hr => (pe_cdS (d := d_least) G_least (hr.mono (by decide)) (fun σ => passAt (takes_of rfl rfl rfl rfl) σ) (pa_cons (pe_lst pa_nil) (pa_cons (pv 4) pa_nil))))) pa_nil)))
  (pss_cons (ps_expr (pe_bm PySem.F.plainAttrs_list PySem.F.slot_list_append PySem.F.type_list_append mt_append (pv 2) (pa_cons (pe_word (k := 10) (T := [(Pt, qlam)]) (q := qlam) (t := _) d__law_word W0 mIsi mInt mVE (show ("law.<locals>." : Str) ++ "<lambda>" = qlam by decide +kernel) TB rfl (List.mem_singleton.mpr rfl) (fun p hp _ => by rw [List.mem_singleton.mp hp]) (hr.mono (by decide)) (show LamS (defScope st_law) _ from lamS_by (by decide +kernel)) rfl (fun _ _ _ _ _ => rfl) (fun A outer s H E f c hr => (pe_cdS (d := d_ends) G_ends (hr.mono (by decide)) (fun σ => passAt (takes_of rfl rfl rfl rfl) σ) (pa_cons (pe_lst pa_nil) (pa_cons (pv 4) pa_nil))))) pa_nil)))
  (pss_cons (ps_expr (pe_bm PySem.F.plainAttrs_list PySem.F.slot_list_append PySem.F.type_list_append mt_append (pv 2) (pa_cons (pe_word (k := 10) (T := [(Pt, qlam)]) (q := qlam) (t := _) d__law_word W0 mIsi mInt mVE (show ("law.<locals>." : Str) ++ "<lambda>" = qlam by decide +kernel) TB rfl (List.mem_singleton.mpr rfl) (fun p hp _ => by rw [List.mem_singleton.mp hp]) (hr.mono (by decide)) (show LamS (defScope st_law) _ from lamS_by (by decide +kernel)) rfl (fun _ _ _ _ _ => rfl) (fun A outer s H E f c hr => (pe_mdS (d := d_Map_get) TM.cl G_Map_get (hr.mono (by decide)) (fun σ => passAt (takes_of rfl rfl rfl rfl) σ) (pe_mk (d := d_Map) G_Map (hr.mono (by decide)) (pa_cons (pv 4) pa_nil)) (pa_cons pe_int pa_nil)))) pa_nil)))
  (pss_cons (ps_expr (pe_bm PySem.F.plainAttrs_list PySem.F.slot_list_append PySem.F.type_list_append mt_append (pv 2) (pa_cons (pe_word (k := 10) (T := [(Pt, qlam)]) (q := qlam) (t := _) d__law_word W0 mIsi mInt mVE (show ("law.<locals>." : Str) ++ "<lambda>" = qlam by decide +kernel) TB rfl (List.mem_singleton.mpr rfl) (fun p hp _ => by rw [List.mem_singleton.mp hp]) (hr.mono (by decide)) (show LamS (defScope st_law) _ from lamS_by (by decide +kernel)) rfl (fun _ _ _ _ _ => rfl) (fun A outer s H E f c hr => (pe_cdS (d := d_nth) G_nth (hr.mono (by decide)) (fun σ => passAt (takes_of rfl rfl rfl rfl) σ) (pa_cons (pv 6) (pa_cons (pv 7) (pa_cons (pv 4) pa_nil)))))) pa_nil)))
  (pss_cons (ps_expr (pe_bm PySem.F.plainAttrs_list PySem.F.slot_list_append PySem.F.type_list_append mt_append (pv 2) (pa_cons (pe_word (k := 10) (T := [(Pt, qlam)]) (q := qlam) (t := _) d__law_word W0 mIsi mInt mVE (show ("law.<locals>." : Str) ++ "<lambda>" = qlam by decide +kernel) TB rfl (List.mem_singleton.mpr rfl) (fun p hp _ => by rw [List.mem_singleton.mp hp]) (hr.mono (by decide)) (show LamS (defScope st_law) _ from lamS_by (by decide +kernel)) rfl (fun _ _ _ _ _ => rfl) (fun A outer s H E f c hr => (pe_mdS (d := d_Map_at) TM.cl G_Map_at (hr.mono (by decide)) (fun σ => passAt (takes_of rfl rfl rfl rfl) σ) (pe_mk (d := d_Map) G_Map (hr.mono (by decide)) (pa_cons (pv 4) pa_nil)) (pa_cons (pv 7) pa_nil)))) pa_nil)))
  (pss_one (ps_ret (pe_and (pe_cmpR (op_eqD hr.units) (pv 2) (pe_op op_cat (pe_op op_rep (pe_lst (pa_cons pe_str pa_nil)) pe_int) (pe_op op_rep (pe_lst (pa_cons pe_str pa_nil)) pe_int)) (nomark _)) (pe_one (pe_cmpR (op_eqD hr.units) (pv 3) (pe_lst pa_nil) (nomark _)))))))))))))))))))), ?_⟩
    have hz' : ns.length ≤ 1000 := by omega
    -- the words
    refine ⟨⟨_, rfl⟩, ?_⟩
    have hn0 : 0 ≤ Mir.cellI ns 0 % 9 ∧ Mir.cellI ns 0 % 9 < 9 := by omega
    obtain ⟨n0, hn9, en0⟩ : ∃ n0 : Nat, n0 < 9 ∧ Mir.cellI ns 0 % 9 = (n0 : Int) := ⟨(Mir.cellI ns 0 % 9).toNat, by omega, by omega⟩
    refine ⟨_, rfl, a, ns, 0, rfl, hS.sq, hz', fun H1 s1 => ?_⟩
    refine ⟨_, _, (n0 : Int), rfl, rfl, (by show (0 : Int) < 9; decide), en0.symm, (n0 : Int), rfl, by omega, by omega, fun D hD => ?_⟩
    refine lc_range (lo := 0) (n := ((n0 : Nat) : Int).toNat) (fun i H3 => ∃ ys : List Str, Same H1 H3 ∧ H3 D = some (.lst (ys.map V.str)) ∧ ys.length = i ∧ ∀ y ∈ ys, y.length = 1) ⟨[], Same.new hD, upd_same, rfl, fun y hy => by cases hy⟩ ?_ ?_
    · rintro i H3 hi ⟨ys, s3, h3, hl, h1⟩
      rw [show ((0 : Int) + (i : Nat)) = ((i : Nat) : Int) from Int.zero_add _]
      have sq3 := (hS.ek (EK.same (s1.trans s3))).sq
      have hmo := Mir.drawn_nn (Mir.cellI ns i) i
      obtain ⟨r, hr7, er⟩ : ∃ r : Nat, r < 7 ∧ Mir.drawn (Mir.cellI ns i) i % 7 = (r : Int) := ⟨(Mir.drawn (Mir.cellI ns i) i % 7).toNat, by omega, by omega⟩
      have hc7 : ∀ r < 7, (atI (("abc -'x" : Str)).cps.toList ((r : Nat) : Int)).isSome = true := by decide +kernel
      obtain ⟨ch, ech⟩ := Option.isSome_iff_exists.mp (hc7 r hr7)
      refine ⟨rfl, ?_⟩
      refine ⟨_, rfl, _, rfl, a, ns, i, rfl, sq3, hz', fun H4 s4 => ⟨_, rfl, _, i, rfl, ?_⟩⟩
      refine ⟨_, _, (r : Int), rfl, rfl, (by show (0 : Int) < 7; decide), er.symm, ("abc -'x" : Str), (r : Int), ch, rfl, rfl, by decide +kernel, ech, ?_⟩
      refine ⟨ys.map V.str, s4 _ _ h3, small1000 (by rw [List.length_map]; omega), ys ++ [⟨#[ch]⟩], fun b o e => ?_, ?_, by rw [List.length_append, hl]; rfl, fun y hy => ?_⟩
      · rw [upd_ne (ne_of_none e hD)]
        exact s4 _ _ (s3 _ _ e)
      · rw [upd_same, List.map_append]
        rfl
      · rcases List.mem_append.mp hy with h | h
        · exact h1 y h
        · rw [List.mem_singleton.mp h]
          rfl
    rintro H2 ⟨ys, s2, h2, hl, h1⟩
    have hsum : (ys.map (·.length)).sum = ys.length := sum_one ys h1
    refine ⟨_, D, ys, rfl, rfl, .inl (SqL.of h2), ?_, ?_⟩
    · rw [hsum, show (Str.ofString "").length = 0 from by decide +kernel]
      omega
    obtain ⟨wz, ewz⟩ : ∃ wz, wz = Txt.join (Str.ofString "") ys := ⟨_, rfl⟩
    rw [← ewz]
    clear ewz hsum h1 hl h2
    have s12 := s1.trans s2
    -- its text, told again
    refine ⟨_, rfl, wz, rfl, _, rfl, rfl, _, rfl, ?_⟩
    rw [decide_eq_true rfl]
    refine iteF ?_
    refine ⟨_, rfl, wz, rfl, _, rfl, rfl, _, rfl, ?_⟩
    rw [decide_eq_true rfl]
    refine iteF ?_
    -- neither is the other
    refine ⟨_, rfl, _, rfl, iteF ?_⟩
    refine ⟨_, rfl, _, rfl, iteF ?_⟩
    -- asked, the order
    refine ⟨Nat.zero_le _, fun q nq => ?_⟩
    have sA : Same H (upd H2 q (.lst [])) := s12.trans (Same.new nq)
    have hq0 : upd H2 q (.lst []) q = some (.lst []) := upd_same
    refine ⟨fun p hp => by rw [List.mem_singleton.mp hp]; exact TabS.nil (sA _ _ hP), fun f c' pm ctv H8 ext nn T8 f0 f8 c8 => ?_⟩
    have hS8 := (hS.ek (EK.same sA)).ext ext
    have hq8 : H8 q = some (.lst []) := ext _ _ hq0 lst_tbl
    clear c8 f8 f0 nn ext hq0 sA nq s12 s2 s1 hS hP
    -- many
    refine ⟨_, rfl, a, ns, 1, rfl, hS8.sq, hz', fun H9 s9 => ?_⟩
    obtain ⟨mn, hmn5, emn⟩ : ∃ mn : Nat, mn < 5 ∧ Mir.cellI ns 1 % 5 = (mn : Int) := ⟨(Mir.cellI ns 1 % 5).toNat, by omega, by omega⟩
    refine ⟨_, _, (mn : Int), rfl, rfl, (by show (0 : Int) < 5; decide), emn.symm, ?_⟩
    -- the row
    refine ⟨_, rfl, (mn : Int), rfl, RgOk.of_le (by omega) (by omega) (by omega) (by omega), fun rw nrw => ?_⟩
    have s10 := s9.trans (Same.new (o := .lst (rgV 0 (mn : Int))) nrw)
    have hrw : upd H9 rw (.lst (rgV 0 (mn : Int))) rw = some (.lst (rgV 0 (mn : Int))) := upd_same
    have lrw : (rgV 0 (mn : Int)).length = mn := by rw [rgV_length]; omega
    obtain ⟨H10, e10⟩ : ∃ Z, Z = upd H9 rw (.lst (rgV 0 (mn : Int))) := ⟨_, rfl⟩
    rw [← e10] at s10 hrw ⊢
    clear e10 nrw s9
    -- the place
    obtain ⟨c2, hc9, ec2⟩ : ∃ c2 : Nat, c2 < 9 ∧ Mir.cellI ns 2 % 9 = (c2 : Int) := ⟨(Mir.cellI ns 2 % 9).toNat, by omega, by omega⟩
    refine ⟨_, rfl, _, rfl, a, ns, 2, rfl, (hS8.ek (EK.same s10)).sq, hz', fun H11 s11 => ?_⟩
    refine ⟨_, _, (c2 : Int), rfl, rfl, (by show (0 : Int) < 9; decide), ec2.symm, _, _, (mn : Int) + c2, rfl, rfl, rfl, ?_⟩
    refine ⟨_, _, (-1 : Int), rfl, rfl, rfl, ?_⟩
    refine ⟨_, rfl, a, ns, 2, rfl, (hS8.ek (EK.same (s10.trans s11))).sq, hz', fun H12 s12 => ?_⟩
    refine ⟨_, _, (c2 : Int), rfl, rfl, (by show (0 : Int) < 9; decide), ec2.symm, _, _, (-1 : Int) - c2, rfl, rfl, rfl, ?_⟩
    refine ⟨by show 2 ≤ sizeLine; decide, fun lp nlp => ?_⟩
    have s13 := (s11.trans s12).trans (Same.new (o := .lst [.int ((mn : Int) + c2), .int ((-1 : Int) - c2)]) nlp)
    refine ⟨_, rfl, a, ns, 3, rfl, (hS8.ek (EK.same (s10.trans s13))).sq, hz', fun H14 s14 => ?_⟩
    have hlp : H14 lp = some (.lst [.int ((mn : Int) + c2), .int ((-1 : Int) - c2)]) := s14 _ _ upd_same
    obtain ⟨r, hr2, er⟩ : ∃ r : Nat, r < 2 ∧ Mir.cellI ns 3 % 2 = (r : Int) := ⟨(Mir.cellI ns 3 % 2).toNat, by omega, by omega⟩
    obtain ⟨pl, epl, hpl⟩ : ∃ pl : Int, atI [V.int ((mn : Int) + c2), V.int ((-1 : Int) - c2)] (r : Int) = some (.int pl) ∧ ¬ (0 ≤ pl ∧ pl < (mn : Int)) := by
      have hh : r = 0 ∨ r = 1 := by omega
      rcases hh with h | h <;> subst h
      · exact ⟨_, rfl, by omega⟩
      · exact ⟨_, rfl, by omega⟩
    refine ⟨_, _, (r : Int), rfl, rfl, (by show (0 : Int) < 2; decide), er.symm, lp, _, _, _, rfl, rfl, SqL.of hlp, epl, ?_⟩
    have s15 := s10.trans (s13.trans s14)
    have hqF := s15 _ _ hq8
    have hrF := (s13.trans s14) _ _ hrw
    have hTF : Tabs [(Pt, qlam)] H14 := Tabs.same T8 s15
    clear hlp s15 s14 s13 nlp s12 s11 s10 hrw hq8 hS8 T8
    -- the first word
    refine ⟨hTF, fun L1 x1 T1 => ?_⟩
    refine ⟨Nat.zero_le _, fun p np => ⟨_, rfl, p, _, rfl, upd_same, fun L2 s2 => ⟨rfl, .inl ⟨rfl, fun L3 s3 => ?_⟩⟩⟩⟩
    have s4 := (Same.new np).trans (s2.trans s3)
    refine ⟨by show 1 ≤ sizeLine; decide, fun wd nwd => ?_⟩
    have F1 : Fk [(Pt, qlam)] q rw wd (rgV 0 (mn : Int)) [.str wElem] (upd L3 wd (.lst [.str wElem])) := by
      have a1 := s4 _ _ (x1 _ _ hqF lst_tbl)
      have a2 := s4 _ _ (x1 _ _ hrF lst_tbl)
      exact ⟨kn nwd a1, kn nwd a2, upd_same, Tabs.same (Tabs.same T1 s4) (Same.new nwd), ne_of_none a1 nwd, ne_of_none a2 nwd⟩
    obtain ⟨Z1, e1⟩ : ∃ Z, Z = upd L3 wd (.lst [.str wElem]) := ⟨_, rfl⟩
    rw [← e1] at F1 ⊢
    clear e1 nwd s4 hqF hrF hTF
    -- word 1
    refine ⟨_, rfl, .inl ⟨rfl, _, SqL.of F1.hw⟩, F1.ht, fun L1 x1 T1 => ?_⟩
    have Fx := F1.ext x1 T1
    refine ⟨Nat.zero_le _, fun p np => ⟨_, rfl, p, _, rfl, upd_same, fun L2 s2 => ⟨rfl, .inl ⟨rfl, fun L3 s3 => ?_⟩⟩⟩⟩
    have Fy := Fx.same ((Same.new np).trans (s2.trans s3))
    refine ⟨wd, _, .str wElem, rfl, rfl, Fy.hw, small1000 (by decide), ?_⟩
    have F2 := Fy.app (.str wElem)
    obtain ⟨Z2, e2⟩ : ∃ Z, Z = upd L3 wd (.lst ([.str wElem] ++ [.str wElem])) := ⟨_, rfl⟩
    rw [← e2] at F2 ⊢
    clear e2 Fy Fx F1
    -- word 2
    refine ⟨_, rfl, .inl ⟨rfl, _, SqL.of F2.hw⟩, F2.ht, fun L1 x1 T1 => ?_⟩
    have Fx := F2.ext x1 T1
    refine ⟨Nat.zero_le _, fun p np => ⟨_, rfl, p, _, rfl, upd_same, fun L2 s2 => ⟨rfl, .inl ⟨rfl, fun L3 s3 => ?_⟩⟩⟩⟩
    have Fy := Fx.same ((Same.new np).trans (s2.trans s3))
    refine ⟨wd, _, .str wElem, rfl, rfl, Fy.hw, small1000 (by decide), ?_⟩
    have F3 := Fy.app (.str wElem)
    obtain ⟨Z3, e3⟩ : ∃ Z, Z = upd L3 wd (.lst (([.str wElem] ++ [.str wElem]) ++ [.str wElem])) := ⟨_, rfl⟩
    rw [← e3] at F3 ⊢
    clear e3 Fy Fx F2
    -- word 3
    refine ⟨_, rfl, .inl ⟨rfl, _, SqL.of F3.hw⟩, F3.ht, fun L1 x1 T1 => ?_⟩
    have Fx := F3.ext x1 T1
    refine ⟨_, rfl, ?_⟩
    intro m0 dx0 nm0 ndx0 nex0
    refine ⟨m0, dx0, f, rfl, upd_same, fun H9 kp9 hm9 => ?_⟩
    have s9 : Same L1 H9 := fun b o e => kp9 b o (ne_of_none e nm0) (by rw [upd_ne (ne_of_none e nm0), upd_ne (ne_of_none e ndx0)]; exact e)
    refine ⟨rfl, ?_⟩
    refine ⟨m0, dx0, _, rfl, hm9, mfl_no _ _ (by decide +kernel) (by decide +kernel), m0, dx0, f, _, rfl, hm9, fun L2 s2 => ⟨rfl, .inl ⟨rfl, fun L3 s3 => ?_⟩⟩⟩
    have Fy := Fx.same (s9.trans (s2.trans s3))
    refine ⟨wd, _, .str wElem, rfl, rfl, Fy.hw, small1000 (by decide), ?_⟩
    have F4 := Fy.app (.str wElem)
    obtain ⟨Z4, e4⟩ : ∃ Z, Z = upd L3 wd (.lst ((([.str wElem] ++ [.str wElem]) ++ [.str wElem]) ++ [.str wElem])) := ⟨_, rfl⟩
    rw [← e4] at F4 ⊢
    clear e4 Fy Fx F3
    -- word 4
    refine ⟨_, rfl, .inl ⟨rfl, _, SqL.of F4.hw⟩, F4.ht, fun L1 x1 T1 => ?_⟩
    have Fx := F4.ext x1 T1
    refine ⟨_, rfl, _, rfl, _, rfl, rw, _, pl, _, rfl, SqL.of Fx.hr, by rw [lrw]; exact hpl, ⟨rfl, .inr ⟨rfl, fun L3 s3 => ?_⟩⟩⟩
    have Fy := Fx.same (s3)
    refine ⟨wd, _, .str wPlace, rfl, rfl, Fy.hw, small1000 (by decide), ?_⟩
    have F5 := Fy.app (.str wPlace)
    obtain ⟨Z5, e5⟩ : ∃ Z, Z = upd L3 wd (.lst (((([.str wElem] ++ [.str wElem]) ++ [.str wElem]) ++ [.str wElem]) ++ [.str wPlace])) := ⟨_, rfl⟩
    rw [← e5] at F5 ⊢
    clear e5 Fy Fx F4
    -- word 5
    refine ⟨_, rfl, .inl ⟨rfl, _, SqL.of F5.hw⟩, F5.ht, fun L1 x1 T1 => ?_⟩
    have Fx := F5.ext x1 T1
    refine ⟨_, rfl, ?_⟩
    intro m0 dx0 nm0 ndx0 nex0
    refine ⟨m0, dx0, f, rfl, upd_same, fun H9 kp9 hm9 => ?_⟩
    have s9 : Same L1 H9 := fun b o e => kp9 b o (ne_of_none e nm0) (by rw [upd_ne (ne_of_none e nm0), upd_ne (ne_of_none e ndx0)]; exact e)
    refine ⟨rfl, ?_⟩
    refine ⟨m0, dx0, _, rfl, hm9, mfl_no _ _ (by decide +kernel) (by decide +kernel), _, rfl, m0, dx0, f, pl, rfl, hm9, ⟨rfl, .inr ⟨rfl, fun L3 s3 => ?_⟩⟩⟩
    have Fy := Fx.same (s9.trans s3)
    refine ⟨wd, _, .str wPlace, rfl, rfl, Fy.hw, small1000 (by decide), ?_⟩
    have F6 := Fy.app (.str wPlace)
    obtain ⟨Z6, e6⟩ : ∃ Z, Z = upd L3 wd (.lst ((((([.str wElem] ++ [.str wElem]) ++ [.str wElem]) ++ [.str wElem]) ++ [.str wPlace]) ++ [.str wPlace])) := ⟨_, rfl⟩
    rw [← e6] at F6 ⊢
    clear e6 Fy Fx F5
    -- the end
    refine ⟨_, rfl, by show 1 ≤ sizeLine; decide, fun p1 n1 => ?_⟩
    refine ⟨p1, 4, _, rfl, rfl, upd_same, by decide, by decide, Nat.le_trans (show ([V.str wElem] : List V).length * (4 : Int).toNat ≤ 4 by decide) (by decide), fun p2 n2 => ?_⟩
    refine ⟨by show 1 ≤ sizeLine; decide, fun p3 n3 => ?_⟩
    refine ⟨p3, 2, _, rfl, rfl, upd_same, by decide, by decide, Nat.le_trans (show ([V.str wPlace] : List V).length * (2 : Int).toNat ≤ 2 by decide) (by decide), fun p4 n4 => ?_⟩
    refine ⟨p2, p4, _, _, rfl, rfl, kn n4 (kn n3 upd_same), upd_same, Nat.le_trans (show (List.replicate (4 : Int).toNat [V.str wElem]).flatten.length + (List.replicate (2 : Int).toNat [V.str wPlace]).flatten.length ≤ 6 by decide) (by decide), fun p5 n5 => ?_⟩
    have s6 := ((((Same.new (o := .lst [V.str wElem]) n1).trans (Same.new (o := .lst (List.replicate (4 : Int).toNat [V.str wElem]).flatten) n2)).trans (Same.new (o := .lst [V.str wPlace]) n3)).trans (Same.new (o := .lst (List.replicate (2 : Int).toNat [V.str wPlace]).flatten) n4)).trans (Same.new (o := .lst ((List.replicate (4 : Int).toNat [V.str wElem]).flatten ++ (List.replicate (2 : Int).toNat [V.str wPlace]).flatten)) n5)
    have F7 := F6.same s6
    have sh : SeqAt.shaped (.list [.str wElem, .str wElem, .str wElem, .str wElem, .str wPlace, .str wPlace]) = true := shaped_of (by simp only [PyData.canLay0, PyData.canLayAll0]; decide +kernel) (by simp [PyData.depth, PyData.depthAll])
    refine ⟨.list [.str wElem, .str wElem, .str wElem, .str wElem, .str wPlace, .str wPlace], .list [.str wElem, .str wElem, .str wElem, .str wElem, .str wPlace, .str wPlace], .lst (SqL.of F7.hw) (.cons (.str _) (.cons (.str _) (.cons (.str _) (.cons (.str _) (.cons (.str _) (.cons (.str _) .nil)))))), .lst (SqL.of upd_same) (.cons (.str _) (.cons (.str _) (.cons (.str _) (.cons (.str _) (.cons (.str _) (.cons (.str _) .nil)))))), sh, sh, _, rfl, ?_⟩
    rw [SeqAt.eqv_refl _ (SeqAt.canLay_of_shaped sh)]
    refine iteT ⟨_, rfl, Nat.zero_le _, fun p8 n8 => ?_⟩
    refine ⟨.list [], .list [], .lst (SqL.of (kn n8 F7.hq)) .nil, .lst (SqL.of upd_same) .nil, shaped_nil, shaped_nil, ?_⟩
    rw [nil_nil]
    exact hQ _
theorem ok_law {c Pt : Addr} (d_law : Df K mg "law" st_law ["_law_script"]) (d_many_of : Df K mg "many_of" st_many_of ["node"]) (d_pop : Df K mg "pop" st_pop ["heap", "order"]) (d_least : Df K mg "least" st_least ["row", "order"]) (d_ends : Df K mg "ends" st_ends ["row", "order"]) (d_nth : Df K mg "nth" st_nth ["row", "k", "order"]) (d__law_cell : Df K mg "_law_cell" st__law_cell ["_law_script", "_law_k"]) (d__law_drawn : Df K mg "_law_drawn" st__law_drawn ["_law_cell_here", "_law_k"]) (d__law_word : Df K mg "_law_word" st__law_word ["_law_rule"]) (d_Map : Di K mg CM "Map" "Map.__init__" st_Map___init__ ["self", "order"]) (d_Map_size : Dm K CM "size" "Map.size" st_Map_size ["self"]) (d_Map_found : Dm K CM "found" "Map.found" st_Map_found ["self", "key"]) (d_Map_get : Dm K CM "get" "Map.get" st_Map_get ["self", "key"]) (d_Map_at : Dm K CM "at" "Map.at" st_Map_at ["self", "place"]) (TN : NodeT K CN) (TM : MapT K CM) (TE : ExcT K mg "NoElement" CE) (TP : ExcT K mg "NoPlace" CP) (W0 : ExcW K mg CO CE CP)
    (mLen : mg "len" = none) (mList : mg "list" = none) (mInt : mg "int" = none) (mRange : mg "range" = none) (mIsi : mg "isinstance" = none) (mStr : mg "str" = none) (mVE : mg "ValueError" = none)
    (TB : TabB base mg c Pt) (hc : d_law.fd.code = .ref c) : FnOk P w K mg base CX0 40 d_law.f d_law.fd ["_law_script"] (spLaw K Pt) := by
  refine fn_frz (ok_lawF d_law d_many_of d_pop d_least d_ends d_nth d__law_cell d__law_drawn d__law_word d_Map d_Map_size d_Map_found d_Map_get d_Map_at TN TM TE TP W0 mLen mList mInt mRange mIsi mStr mVE TB hc) (fun vs H Q E h => ?_) fun vs H Q E h => ?_
  · obtain ⟨a, ns, rfl, _⟩ := h
    rfl
  · obtain ⟨a, ns, rfl, hS, hz, hP, hQ⟩ := h
    rcases hS with (hS | ⟨o, hS⟩) | hS
    · refine .inr ⟨a, ns.map V.int, hS, fun o => ⟨a, ns, rfl, .inl ⟨o, upd_same⟩, hz, (upd_ne fun z => ?_).trans hP, hQ⟩⟩
      rw [z, hS] at hP
      cases hP
    · exact .inl ⟨a, ns, rfl, .inl ⟨o, hS⟩, hz, hP, hQ⟩
    · exact .inl ⟨a, ns, rfl, .inr fun H' => .inr hS, hz, hP, hQ⟩
end
end Ord

namespace Ord
open PySem PySem.Spec PyProof.Rows L2 LamX
theorem toFun {K : PySem.W.Frag} {x qual : Str} {st : Stmt} {f : Addr} {fd : FuncData} (F : FunD K x qual (defArgs st) (defBody st) (defScope st) [] [] f fd) : Fun K x qual st f fd := by
  obtain ⟨oc, od, dV, kV, doc, pm, an, cdv, ct, osl, e, lk, hcd, hD, hK⟩ := F.ex
  rcases hD with ⟨_, rfl⟩ | ⟨z, _⟩
  · exact ⟨⟨oc, od, kV, doc, pm, an, cdv, ct, osl, e, lk, hcd⟩, F.kp⟩
  · exact absurd rfl z
theorem df_of {K : PySem.W.Frag} {mg : Str → Option Value} {x : Str} {st : Stmt} {ps : List Str} (h : ∃ fd, FunD K x x (defArgs st) (defBody st) (defScope st) [] [] (He.fAd K (x, none)) fd) (g : mg x = some (.ref (He.ga K x)))
    (hb : ∀ (kV doc pm : Value) (an : Option Addr) (cdv ct : Value) (us : List Value), us.length = ps.length → bindArgs (PySem.W.fnOf x x (defArgs st) (defBody st) (defScope st) .none kV doc pm an cdv ct) ⟨us, []⟩ = pure (ps.zip us)) :
    ∃ d : Df K mg x st ps, d.f = He.fAd K (x, none) := by
  obtain ⟨fd, F⟩ := h
  exact ⟨⟨_, fd, toFun F, g, (toFun F).binds hb⟩, rfl⟩
theorem df_code {K : PySem.W.Frag} {mg : Str → Option Value} {x : Str} {st : Stmt} {ps : List Str} (d : Df K mg x st ps) (e : d.f = He.fAd K (x, none)) : d.fd.code = .ref (He.cT K (x, none)).1 := by
  obtain ⟨oc, od, kV, doc, pm, an, cdv, ct, osl, e1, lk, hcd⟩ := d.F.ex
  obtain ⟨c, ec⟩ := He.codeIn_ref hcd
  have e2 : d.fd.code = .ref c := by rw [e1]; exact ec
  rw [e] at lk
  have e3 : He.codeOf K (x, none) = c := He.codeOf_eq lk e2
  rw [e2]
  show _ = Value.ref (He.codeOf K (x, none))
  rw [e3]
theorem df_bind {K : PySem.W.Frag} {mg : Str → Option Value} {x : Str} {st : Stmt} (d : Df K mg x st [y])
    (hb : ∀ (kV doc pm : Value) (an : Option Addr) (cdv ct : Value) (us : List Value), us.length = 1 → bindArgs (PySem.W.fnOf x x (defArgs st) (defBody st) (defScope st) .none kV doc pm an cdv ct) ⟨us, []⟩ = pure ([y].zip us)) : ∀ (s : Shared) (u : Value), BindsTo s d.fd ⟨[u], []⟩ [(y, u)] := by
  intro s u
  obtain ⟨oc, od, kV, doc, pm, an, cdv, ct, osl, e1, lk, hcd⟩ := d.F.ex
  rw [e1]
  exact .of_eq (hb kV doc pm an cdv ct [u] rfl)
end Ord

namespace Ord
open PySem PySem.Spec PyProof.Rows L2 LamX
theorem toFunM {K : PySem.W.Frag} {x qual : Str} {st : Stmt} {f : Addr} {fd : FuncData} (F : FunD K x qual (defArgs st) (defBody st) (defScope st) [] [] f fd) : Fun K x qual st f fd := by
  obtain ⟨oc, od, dV, kV, doc, pm, an, cdv, ct, osl, e, lk, hcd, hD, hK⟩ := F.ex
  rcases hD with ⟨_, rfl⟩ | ⟨z, _⟩
  · exact ⟨⟨oc, od, kV, doc, pm, an, cdv, ct, osl, e, lk, hcd⟩, F.kp⟩
  · exact absurd rfl z
theorem dm_of {K : PySem.W.Frag} {x m qual : Str} {st : Stmt} {ps : List Str} (h : ∃ fd, FunD K m qual (defArgs st) (defBody st) (defScope st) [] [] (He.fAd K (x, some m)) fd) (me : Meth K (He.ga K x) m (He.ma K (He.ga K x) m))
    (hb : ∀ (kV doc pm : Value) (an : Option Addr) (cdv ct : Value) (us : List Value), us.length = ps.length → bindArgs (PySem.W.fnOf m qual (defArgs st) (defBody st) (defScope st) .none kV doc pm an cdv ct) ⟨us, []⟩ = pure (ps.zip us)) :
    ∃ _ : Dm K (He.ga K x) m qual st ps, True := by
  obtain ⟨fd, F⟩ := h
  exact ⟨⟨_, fd, toFunM F, me, (toFunM F).binds hb⟩, True.intro⟩
theorem di_of {K : PySem.W.Frag} {mg : Str → Option Value} {x qual : Str} {st : Stmt} {ps : List Str} (h : ∃ fd, FunD K "__init__" qual (defArgs st) (defBody st) (defScope st) [] [] (He.fAd K (x, some "__init__")) fd) (mk : Mk K (He.ga K x) (He.ma K (He.ga K x) "__init__")) (cl : Cls K (He.ga K x)) (g : mg x = some (.ref (He.ga K x)))
    (hb : ∀ (kV doc pm : Value) (an : Option Addr) (cdv ct : Value) (us : List Value), us.length = ps.length → bindArgs (PySem.W.fnOf "__init__" qual (defArgs st) (defBody st) (defScope st) .none kV doc pm an cdv ct) ⟨us, []⟩ = pure (ps.zip us)) :
    ∃ _ : Di K mg (He.ga K x) x qual st ps, True := by
  obtain ⟨fd, F⟩ := h
  exact ⟨⟨_, fd, toFunM F, mk, (toFunM F).binds hb, cl, g⟩, True.intro⟩
end Ord

namespace Ord
open PySem PySem.Spec PyProof.Rows L2 LamX
def dd__wall : He.DefD := ⟨("_wall", none), "_wall", "_wall", defArgs st__wall, defBody st__wall, defScope st__wall, [], []⟩
def dd_sunk : He.DefD := ⟨("sunk", none), "sunk", "sunk", defArgs st_sunk, defBody st_sunk, defScope st_sunk, [], []⟩
def dd_pop : He.DefD := ⟨("pop", none), "pop", "pop", defArgs st_pop, defBody st_pop, defScope st_pop, [], []⟩
def dd_level_of : He.DefD := ⟨("level_of", none), "level_of", "level_of", defArgs st_level_of, defBody st_level_of, defScope st_level_of, [], []⟩
def dd_many_of : He.DefD := ⟨("many_of", none), "many_of", "many_of", defArgs st_many_of, defBody st_many_of, defScope st_many_of, [], []⟩
def dd_lean : He.DefD := ⟨("lean", none), "lean", "lean", defArgs st_lean, defBody st_lean, defScope st_lean, [], []⟩
def dd_right_up : He.DefD := ⟨("right_up", none), "right_up", "right_up", defArgs st_right_up, defBody st_right_up, defScope st_right_up, [], []⟩
def dd_left_up : He.DefD := ⟨("left_up", none), "left_up", "left_up", defArgs st_left_up, defBody st_left_up, defScope st_left_up, [], []⟩
def dd_even : He.DefD := ⟨("even", none), "even", "even", defArgs st_even, defBody st_even, defScope st_even, [], []⟩
def dd_with_key : He.DefD := ⟨("with_key", none), "with_key", "with_key", defArgs st_with_key, defBody st_with_key, defScope st_with_key, [], []⟩
def dd_merged : He.DefD := ⟨("merged", none), "merged", "merged", defArgs st_merged, defBody st_merged, defScope st_merged, [], []⟩
def dd_stable : He.DefD := ⟨("stable", none), "stable", "stable", defArgs st_stable, defBody st_stable, defScope st_stable, [], []⟩
def dd_least : He.DefD := ⟨("least", none), "least", "least", defArgs st_least, defBody st_least, defScope st_least, [], []⟩
def dd_paired : He.DefD := ⟨("paired", none), "paired", "paired", defArgs st_paired, defBody st_paired, defScope st_paired, [], []⟩
def dd_ends : He.DefD := ⟨("ends", none), "ends", "ends", defArgs st_ends, defBody st_ends, defScope st_ends, [], []⟩
def dd_nth : He.DefD := ⟨("nth", none), "nth", "nth", defArgs st_nth, defBody st_nth, defScope st_nth, [], []⟩
def dd__law_cell : He.DefD := ⟨("_law_cell", none), "_law_cell", "_law_cell", defArgs st__law_cell, defBody st__law_cell, defScope st__law_cell, [], []⟩
def dd__law_drawn : He.DefD := ⟨("_law_drawn", none), "_law_drawn", "_law_drawn", defArgs st__law_drawn, defBody st__law_drawn, defScope st__law_drawn, [], []⟩
def dd__law_word : He.DefD := ⟨("_law_word", none), "_law_word", "_law_word", defArgs st__law_word, defBody st__law_word, defScope st__law_word, [], []⟩
def dd__law_ask : He.DefD := ⟨("_law_ask", none), "_law_ask", "_law_ask", defArgs st__law_ask, defBody st__law_ask, defScope st__law_ask, [], []⟩
def dd_law : He.DefD := ⟨("law", none), "law", "law", defArgs st_law, defBody st_law, defScope st_law, [], []⟩
def dd_Node___init__ : He.DefD := ⟨("Node", some "__init__"), "__init__", "Node.__init__", defArgs st_Node___init__, defBody st_Node___init__, defScope st_Node___init__, [], []⟩
def dd_Map___init__ : He.DefD := ⟨("Map", some "__init__"), "__init__", "Map.__init__", defArgs st_Map___init__, defBody st_Map___init__, defScope st_Map___init__, [], []⟩
def dd_Map_size : He.DefD := ⟨("Map", some "size"), "size", "Map.size", defArgs st_Map_size, defBody st_Map_size, defScope st_Map_size, [], []⟩
def dd_Map_found : He.DefD := ⟨("Map", some "found"), "found", "Map.found", defArgs st_Map_found, defBody st_Map_found, defScope st_Map_found, [], []⟩
def dd_Map_get : He.DefD := ⟨("Map", some "get"), "get", "Map.get", defArgs st_Map_get, defBody st_Map_get, defScope st_Map_get, [], []⟩
def dd_Map_at : He.DefD := ⟨("Map", some "at"), "at", "Map.at", defArgs st_Map_at, defBody st_Map_at, defScope st_Map_at, [], []⟩
def fnL : List He.DefD := [dd__wall, dd_sunk, dd_pop, dd_level_of, dd_many_of, dd_lean, dd_right_up, dd_left_up, dd_even, dd_with_key, dd_merged, dd_stable, dd_least, dd_paired, dd_ends, dd_nth, dd__law_cell, dd__law_drawn, dd__law_word, dd__law_ask, dd_law, dd_Node___init__, dd_Map___init__, dd_Map_size, dd_Map_found, dd_Map_get, dd_Map_at]
def faL : List He.Fa := [.glo "_wall", .glo "sunk", .glo "pop", .glo "level_of", .glo "many_of", .glo "lean", .glo "right_up", .glo "left_up", .glo "even", .glo "with_key", .glo "merged", .glo "stable", .glo "least", .glo "paired", .glo "ends", .glo "nth", .glo "_law_cell", .glo "_law_drawn", .glo "_law_word", .glo "_law_ask", .glo "law", .free "len", .free "list", .free "int", .free "range", .free "isinstance", .free "str", .free "ValueError", .glo "OrderError", .cls "Node", .mkr "Node", .glo "Node", .noat "Node" "key", .noat "Node" "held", .noat "Node" "left", .noat "Node" "right", .noat "Node" "level", .noat "Node" "many", .cls "Map", .mkr "Map", .glo "Map", .noat "Map" "order", .noat "Map" "root", .meth "Map" "size", .meth "Map" "found", .meth "Map" "get", .meth "Map" "at", .glo "NoElement", .exc "NoElement", .exm "NoElement" "NoElement" true, .glo "NoPlace", .exc "NoPlace", .exm "NoPlace" "NoPlace" true]
def tfL : List He.Defn := [("law", none)]
abbrev exL : PySem.W.Frag → Bool := fun K => exwB K (He.ga K "OrderError") (He.ga K "NoElement") (He.ga K "NoPlace")
abbrev RR : PySem.W.OpenRow := PySem.W.OpenLaw.row PySem.Challenge.rw_yourorder_k10_refusals_apart
abbrev hkL : PySem.W.Hook := He.hookX 4 faL fnL [] tfL exL
def obL (s : PySem.W.SharedT) : He.AlX := He.obsX 4 faL fnL [] tfL exL (HandSHeadRun.getT s)
theorem obL_eq (s : PySem.W.SharedT) : obL s = hkL.obs s.abs := He.obsX_eq (HandSHeadRun.getT_eq s)
theorem runL (w : World) : HandSHeadRun.RunEq RR (PySem.W.view RR.prog [31]) hkL obL 20000 ["_wall", "sunk", "pop", "level_of", "many_of", "lean", "right_up", "left_up", "even", "with_key", "merged", "stable", "least", "paired", "ends", "nth", "_law_cell", "_law_drawn", "_law_word", "_law_ask", "OrderError", "NoElement", "NoPlace", "Node", "Map"] w := by
  intro os
  kernel_rfl
theorem factsL {P : Program} {w : World} {K : PySem.W.Frag} {h : Heap} {mg : Str → Option Value} {f : Addr} (X : K.In h) (G : h.Ns mainGlobals mg) (hfa : mg ("law" : Str) = some (.ref f)) (cc : He.SaysX faL fnL [] tfL exL w h K) :
    ∃ fd : FuncData, (∀ (s : Shared) (u : Value), BindsTo s fd ⟨[u], []⟩ [("_law_script", u)]) ∧ ∀ base : Heap, K.In base → base.Ns mainGlobals mg → (∀ p ∈ tfL.map (He.cT K), TabB base mg p.1 p.2) → FnOk P w K mg base CX0 40 f fd ["_law_script"] (spLaw K (He.cT K ("law", none)).2) := by
  have c := cc.t.d
  obtain ⟨d_pop, e_pop⟩ := df_of (st := st_pop) (ps := ["heap", "order"]) (c.def_ 2 (d := dd_pop) rfl) (He.glo_ok X G (c.fact 2 (f := .glo "pop") rfl)) (fun _ _ _ _ _ _ us hl => match us, hl with | [_, _], _ => rfl)
  obtain ⟨d_many_of, e_many_of⟩ := df_of (st := st_many_of) (ps := ["node"]) (c.def_ 4 (d := dd_many_of) rfl) (He.glo_ok X G (c.fact 4 (f := .glo "many_of") rfl)) (fun _ _ _ _ _ _ us hl => match us, hl with | [_], _ => rfl)
  obtain ⟨d_least, e_least⟩ := df_of (st := st_least) (ps := ["row", "order"]) (c.def_ 12 (d := dd_least) rfl) (He.glo_ok X G (c.fact 12 (f := .glo "least") rfl)) (fun _ _ _ _ _ _ us hl => match us, hl with | [_, _], _ => rfl)
  obtain ⟨d_ends, e_ends⟩ := df_of (st := st_ends) (ps := ["row", "order"]) (c.def_ 14 (d := dd_ends) rfl) (He.glo_ok X G (c.fact 14 (f := .glo "ends") rfl)) (fun _ _ _ _ _ _ us hl => match us, hl with | [_, _], _ => rfl)
  obtain ⟨d_nth, e_nth⟩ := df_of (st := st_nth) (ps := ["row", "k", "order"]) (c.def_ 15 (d := dd_nth) rfl) (He.glo_ok X G (c.fact 15 (f := .glo "nth") rfl)) (fun _ _ _ _ _ _ us hl => match us, hl with | [_, _, _], _ => rfl)
  obtain ⟨d__law_cell, e__law_cell⟩ := df_of (st := st__law_cell) (ps := ["_law_script", "_law_k"]) (c.def_ 16 (d := dd__law_cell) rfl) (He.glo_ok X G (c.fact 16 (f := .glo "_law_cell") rfl)) (fun _ _ _ _ _ _ us hl => match us, hl with | [_, _], _ => rfl)
  obtain ⟨d__law_drawn, e__law_drawn⟩ := df_of (st := st__law_drawn) (ps := ["_law_cell_here", "_law_k"]) (c.def_ 17 (d := dd__law_drawn) rfl) (He.glo_ok X G (c.fact 17 (f := .glo "_law_drawn") rfl)) (fun _ _ _ _ _ _ us hl => match us, hl with | [_, _], _ => rfl)
  obtain ⟨d__law_word, e__law_word⟩ := df_of (st := st__law_word) (ps := ["_law_rule"]) (c.def_ 18 (d := dd__law_word) rfl) (He.glo_ok X G (c.fact 18 (f := .glo "_law_word") rfl)) (fun _ _ _ _ _ _ us hl => match us, hl with | [_], _ => rfl)
  obtain ⟨d_law, e_law⟩ := df_of (st := st_law) (ps := ["_law_script"]) (c.def_ 20 (d := dd_law) rfl) (He.glo_ok X G (c.fact 20 (f := .glo "law") rfl)) (fun _ _ _ _ _ _ us hl => match us, hl with | [_], _ => rfl)
  obtain ⟨d_Node, _⟩ := di_of (mg := mg) (st := st_Node___init__) (ps := ["self", "key", "held", "left", "right"]) (c.def_ 21 (d := dd_Node___init__) rfl) (He.mkr_ok (c.fact 30 (f := .mkr "Node") rfl)) (He.cls_ok (c.fact 29 (f := .cls "Node") rfl)) (He.glo_ok X G (c.fact 31 (f := .glo "Node") rfl)) (fun _ _ _ _ _ _ us hl => match us, hl with | [_, _, _, _, _], _ => rfl)
  have T_Node : NodeT K (He.ga K "Node") := ⟨He.cls_ok (c.fact 29 (f := .cls "Node") rfl), He.noat_ok (c.fact 32 (f := .noat "Node" "key") rfl), He.noat_ok (c.fact 33 (f := .noat "Node" "held") rfl), He.noat_ok (c.fact 34 (f := .noat "Node" "left") rfl), He.noat_ok (c.fact 35 (f := .noat "Node" "right") rfl), He.noat_ok (c.fact 36 (f := .noat "Node" "level") rfl), He.noat_ok (c.fact 37 (f := .noat "Node" "many") rfl)⟩
  obtain ⟨d_Map, _⟩ := di_of (mg := mg) (st := st_Map___init__) (ps := ["self", "order"]) (c.def_ 22 (d := dd_Map___init__) rfl) (He.mkr_ok (c.fact 39 (f := .mkr "Map") rfl)) (He.cls_ok (c.fact 38 (f := .cls "Map") rfl)) (He.glo_ok X G (c.fact 40 (f := .glo "Map") rfl)) (fun _ _ _ _ _ _ us hl => match us, hl with | [_, _], _ => rfl)
  obtain ⟨d_Map_size, _⟩ := dm_of (st := st_Map_size) (ps := ["self"]) (c.def_ 23 (d := dd_Map_size) rfl) (He.meth_ok (c.fact 43 (f := .meth "Map" "size") rfl)) (fun _ _ _ _ _ _ us hl => match us, hl with | [_], _ => rfl)
  obtain ⟨d_Map_found, _⟩ := dm_of (st := st_Map_found) (ps := ["self", "key"]) (c.def_ 24 (d := dd_Map_found) rfl) (He.meth_ok (c.fact 44 (f := .meth "Map" "found") rfl)) (fun _ _ _ _ _ _ us hl => match us, hl with | [_, _], _ => rfl)
  obtain ⟨d_Map_get, _⟩ := dm_of (st := st_Map_get) (ps := ["self", "key"]) (c.def_ 25 (d := dd_Map_get) rfl) (He.meth_ok (c.fact 45 (f := .meth "Map" "get") rfl)) (fun _ _ _ _ _ _ us hl => match us, hl with | [_, _], _ => rfl)
  obtain ⟨d_Map_at, _⟩ := dm_of (st := st_Map_at) (ps := ["self", "place"]) (c.def_ 26 (d := dd_Map_at) rfl) (He.meth_ok (c.fact 46 (f := .meth "Map" "at") rfl)) (fun _ _ _ _ _ _ us hl => match us, hl with | [_, _], _ => rfl)
  have T_Map : MapT K (He.ga K "Map") := ⟨He.cls_ok (c.fact 38 (f := .cls "Map") rfl), He.noat_ok (c.fact 41 (f := .noat "Map" "order") rfl), He.noat_ok (c.fact 42 (f := .noat "Map" "root") rfl)⟩
  have E_NoElement : ExcT K mg "NoElement" (He.ga K "NoElement") := ⟨He.glo_ok X G (c.fact 47 (f := .glo "NoElement") rfl), (He.exc_ok (c.fact 48 (f := .exc "NoElement") rfl)).1, (He.exc_ok (c.fact 48 (f := .exc "NoElement") rfl)).2.1, (He.exc_ok (c.fact 48 (f := .exc "NoElement") rfl)).2.2.1, (He.exc_ok (c.fact 48 (f := .exc "NoElement") rfl)).2.2.2, He.exm_ok (c.fact 49 (f := .exm "NoElement" "NoElement" true) rfl)⟩
  have E_NoPlace : ExcT K mg "NoPlace" (He.ga K "NoPlace") := ⟨He.glo_ok X G (c.fact 50 (f := .glo "NoPlace") rfl), (He.exc_ok (c.fact 51 (f := .exc "NoPlace") rfl)).1, (He.exc_ok (c.fact 51 (f := .exc "NoPlace") rfl)).2.1, (He.exc_ok (c.fact 51 (f := .exc "NoPlace") rfl)).2.2.1, (He.exc_ok (c.fact 51 (f := .exc "NoPlace") rfl)).2.2.2, He.exm_ok (c.fact 52 (f := .exm "NoPlace" "NoPlace" true) rfl)⟩
  have e := hfa.symm.trans d_law.g
  cases e
  refine ⟨d_law.fd, df_bind d_law (fun _ _ _ _ _ _ us hl => match us, hl with | [_], _ => rfl), fun base hK hG hT => ?_⟩
  exact ok_law d_law d_many_of d_pop d_least d_ends d_nth d__law_cell d__law_drawn d__law_word d_Map d_Map_size d_Map_found d_Map_get d_Map_at T_Node T_Map E_NoElement E_NoPlace (exw_ok (He.glo_ok X G (c.fact 28 (f := .glo "OrderError") rfl)) E_NoElement.g E_NoPlace.g cc.more) (He.free_ok X G (c.fact 21 (f := .free "len") rfl)) (He.free_ok X G (c.fact 22 (f := .free "list") rfl)) (He.free_ok X G (c.fact 23 (f := .free "int") rfl)) (He.free_ok X G (c.fact 24 (f := .free "range") rfl)) (He.free_ok X G (c.fact 25 (f := .free "isinstance") rfl)) (He.free_ok X G (c.fact 26 (f := .free "str") rfl)) (He.free_ok X G (c.fact 27 (f := .free "ValueError") rfl)) (hT (He.cT K ("law", none)) (List.mem_map.mpr ⟨("law", none), by simp [tfL], rfl⟩)) (df_code d_law e_law)
end Ord
open PySem PySem.W PySem.Calls PyProof.Rows
theorem PySem.Challenge.cw_yourorder_k10_refusals_apart_holds : PySem.Challenge.rw_yourorder_k10_refusals_apart.Holds := by
  w_on; o_law
  refine HandSHeadRun.head_any (r := OpenLaw.row PySem.Challenge.rw_yourorder_k10_refusals_apart) (q := view (OpenLaw.row PySem.Challenge.rw_yourorder_k10_refusals_apart).prog [31]) (H := Ord.hkL) (ob := Ord.obL) (M := 20000) (loose := ["_wall", "sunk", "pop", "level_of", "many_of", "lean", "right_up", "left_up", "even", "with_key", "merged", "stable", "least", "paired", "ends", "nth", "_law_cell", "_law_drawn", "_law_word", "_law_ask", "OrderError", "NoElement", "NoPlace", "Node", "Map"]) (d := HandSHeadRun.topDef (OpenLaw.row PySem.Challenge.rw_yourorder_k10_refusals_apart).prog 31) (kwd := []) Ord.obL_eq
    (by kernel_rfl) (fun s => by kernel_rfl) Ord.runL (by kernel_rfl) (by kernel_rfl) (by kernel_rfl) (by rfl) (by first | assumption | decide +kernel) (by decide +kernel) ⟨rfl, rfl, rfl, rfl, rfl, by decide +kernel⟩ ?hw ?hc
  case hw => w_witness2
  case hc =>
    refine LamX.walk_ofTsE (l := PySem.Challenge.rw_yourorder_k10_refusals_apart) (n := 63) (k := 40) (x := "_law_script") (CX := fun _ => L2.CX0) rfl (by decide) (by kernel_rfl) ⟨rfl, by decide, by decide⟩ ?F (fun _ _ _ _ _ z => z)
    intro w mg fa h Y G hmg0
    obtain ⟨K, KX, c⟩ := Y
    have hmg : mg ("law" : PySem.Str) = some (.ref fa) := by
      have e : (HandSHeadRun.topDef (OpenLaw.row PySem.Challenge.rw_yourorder_k10_refusals_apart).prog 31).name = ("law" : PySem.Str) := by kernel_rfl
      rw [← e]
      exact hmg0
    obtain ⟨fd, hb, hF⟩ := Ord.factsL (P := (PySem.Challenge.rw_yourorder_k10_refusals_apart).prog) (w := w) KX G hmg c
    refine ⟨K, KX, fd, Ord.tfL.map (He.cT K), _, fun p hp => ?_, fun p hp => ?_, fun p hp => ?_, hb, fun H a ns hl hbits hT hS => ?_, hF⟩
    · obtain ⟨z, hz, rfl⟩ := List.mem_map.mp hp
      exact c.empty z hz
    · obtain ⟨z, hz, rfl⟩ := List.mem_map.mp hp
      exact c.out z hz
    · obtain ⟨z, hz, rfl⟩ := List.mem_map.mp hp
      exact PySem.W.codeHd_of_K KX (c.hd z hz)
    · exact ⟨a, ns, rfl, hS, hl, hT (He.cT K ("law", none)) (List.mem_map.mpr ⟨("law", none), by simp [Ord.tfL], rfl⟩), fun _ => rfl⟩
#print axioms PySem.Challenge.cw_yourorder_k10_refusals_apart_holds


