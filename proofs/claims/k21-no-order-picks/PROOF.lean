import PyProof.Rows.All
import Wide.All
import OpenK.AllK
import Wide.FinOn
import HandS.ForExc
import KE.KLam
import HandS.Comp
import HandS.Lambda
import HandS.Nested
import HandS.Deep
import HandS.Wide
import HandS.SetFor
import HandS.Iter
import HandS.IsInst
import HandS.Rev
import HandS.Head0
import HandS.Head1
import HandS.Head2
import HandS.HeadHook1
import HandS.HeadHook2
import HandS.HeadHook3
import HandS.HeadHook4
import HandS.HeadWalk
import HandS.EndTab
import PySem.Challenge.RW_yourorder_k21_whole_picks_by_no_order
set_option Elab.async false
set_option linter.all false
set_option maxRecDepth 100000
set_option maxHeartbeats 4000000
namespace Ord
open PySem PySem.Spec PyProof.Rows L2
def top (i : Nat) : Stmt := PySem.Challenge.pw_yourorder_k21_whole_picks_by_no_order.main.body.getD i (.Pass ⟨0, 0, 0, 0⟩)
abbrev st_OrderError : Stmt := top 1
abbrev st_NoElement : Stmt := top 2
abbrev st_NoPlace : Stmt := top 3
abbrev st_is_heap : Stmt := top 5
abbrev st_push : Stmt := top 6
abbrev st_sunk : Stmt := top 7
abbrev st_pop : Stmt := top 8
abbrev st_heaped : Stmt := top 9
abbrev st_merged : Stmt := top 11
abbrev st_stable : Stmt := top 12
abbrev st_upper : Stmt := top 13
abbrev st_least : Stmt := top 15
abbrev st_paired : Stmt := top 16
abbrev st_ends : Stmt := top 17
abbrev st_best : Stmt := top 18
abbrev st_nth : Stmt := top 19
abbrev st_turned_pairs : Stmt := top 20
abbrev st_counted : Stmt := top 21
abbrev st_rising : Stmt := top 22
abbrev st__law_cell : Stmt := top 24
abbrev st__law_drawn : Stmt := top 25
abbrev st__law_row : Stmt := top 26
abbrev st__law_size : Stmt := top 27
abbrev st__law_lie : Stmt := top 28
abbrev st__law_alike : Stmt := top 29
abbrev st__law_log : Stmt := top 30
abbrev st__law_heaps_right : Stmt := top 31
abbrev st_law : Stmt := top 32
end Ord

/-! The closure layer: lambdas with parameters and captured cells, handed to defs and called there. -/
namespace Ord
open PySem PySem.Spec PyProof.Rows L2 LamX

/-! ### a thing that is known to the object -/
abbrev Fz (o : Obj) : HO := .frz o (.ext fun _ => True)
theorem fz_ok {P : Program} {w : World} {H : Hp} {h : Heap} {a : Addr} {o : Obj} (e : h.get? a = some o) : ObjOk P w H h a (Fz o) :=
  ⟨e, True.intro, ⟨o, e⟩, fun _ _ _ _ => True.intro⟩
theorem fz_at {P : Program} {w : World} {H : Hp} {h : Heap} {a : Addr} {o : Obj} (hok : HOk P w H h) (e : H a = some (Fz o)) : h.get? a = some o := (hok a _ e).1
theorem upd_none {H : Hp} {a b : Addr} {o : HO} (e : upd H a o b = Option.none) : H b = Option.none := by
  unfold upd at e
  split at e
  · cases e
  · exact e

/-! ### a lambda is made -/
section
variable {X : Cx} {pins : List (Addr × Obj)} {σ : L2.St} {H : Hp} {s : Shared}
theorem inv_fz {o : Obj} {t' : Nat} (I : Inv X pins σ H s) (hf : o.isFreed = false) : Inv X pins σ (upd H s.heap.objs.size (Fz o)) { s with heap := s.heap.push o, toks := t' } :=
  I.laid (a := s.heap.objs.size) (fun b u e => Heap.get?_push_of_some _ e) (Nat.le_refl _) (fz_ok (Heap.get?_push_size _ hf))
theorem lam_make3 {T : List (Addr × Str)} {c P : Addr} {params : Arguments} {body : Expr} {scope : Scope} {pos : Pos} {E : Value → Shared → Prop} {Q : Value → Shared → Prop} (I : Inv X pins σ H s) (TB : TabB X.base X.mg c P) (hcode : X.env.code = .ref c)
    (hm : (P, X.env.qual ++ "<lambda>") ∈ T) (hu : ∀ p ∈ T, p.1 = P → p.2 = X.env.qual ++ "<lambda>") (hT : Tabs T H) (hdef : defaultsOf params X.env = ([], [])) (hfree : ∀ y ∈ scope.names, y.2 = .free → ∃ c, X.env.cells.lookup y.1 = some c)
    (h : ∀ (f c' : Addr) (pm ctv : Value) (H1 : Hp) (s' : Shared), Inv X pins σ H1 s' → ExtN H H1 → (∀ b, H1 b = Option.none → H b = Option.none) → Tabs T H1 → H f = none →
      H1 f = some (Fz (PySem.W.kla_obj "<lambda>" (X.env.qual ++ "<lambda>") params body scope (cloFrom X.env.cells scope.names []) pm c' ctv)) → H1 c' = some (CodeO c' (X.env.qual ++ "<lambda>")) → Q (.ref f) s') :
    wpAny (model X.prog X.w) X.A (eval (.Lambda params body scope pos) X.env) Q E s := by
  obtain ⟨ps, hP, ht, ha⟩ := hT _ hm
  refine PySem.W.kla_eval hdef ?_
  have bP : s.heap.BuiltinsAt X.mg P := TB.bm.keeps I.bk
  have hP' : s.heap.get? P = some { cls := .none, data := .fields ps } := I.hok P _ hP
  cases hc : codeAmong pos ps.toList with
  | none =>
    refine PySem.W.kla_makeFunction (mg := X.mg) (c := c) (P := P) (ps := ps) (closure_ok hfree) I.ok.glob (I.mod.glob.keeps I.bk) hcode (TB.code.keeps I.bk) hP' ht hc TB.gP bP fun c' ctv h' tk hx hge hlt hrec htb => ?_
    obtain ⟨c2, oc, vs, t, e2, hoc, hd, hv⟩ := hrec
    cases e2
    have nC : H c' = none := I.hok.fresh hge
    have I1 := inv_table (t' := tk) (more := #[rawInt pos.line, rawInt pos.col, .ref c']) (h' := h') I hP (fun b o hb e => hx b o hb e) htb hge ⟨oc, vs, t, hoc, hd, hv⟩
    have hE : ExtN H (upd (upd H P (.tbl (ps ++ #[rawInt pos.line, rawInt pos.col, .ref c']))) c' (CodeO c' (X.env.qual ++ "<lambda>"))) := fun b o e n => by
      rw [upd_ne (ne_of_none e nC), upd_ne (fun z => n ps (Option.some.inj (e.symm.trans (by rw [z]; exact hP))))]
      exact e
    have eL : (ps ++ #[rawInt pos.line, rawInt pos.col, .ref c']).toList = ps.toList ++ [rawInt pos.line, rawInt pos.col, .ref c'] := by simp
    have T1 : Tabs T (upd (upd H P (.tbl (ps ++ #[rawInt pos.line, rawInt pos.col, .ref c']))) c' (CodeO c' (X.env.qual ++ "<lambda>"))) := fun p hp => by
      by_cases hb : p.1 = P
      · rw [hu p hp hb, hb]
        refine ⟨_, by rw [upd_ne (ne_of_none hP nC), upd_same], by rw [eL]; exact PySem.TriplesOk_snoc _ _ _ _ ht, fun p' cv hcv => ?_⟩
        rw [eL] at hcv
        rcases among_app _ ht hcv with z | z
        · obtain ⟨c0, e1, e2⟩ := ha p' cv z
          exact ⟨c0, e1, hE _ _ e2 codeO_ne⟩
        · exact ⟨c', z, upd_same⟩
      · obtain ⟨ps', a1, a2, a3⟩ := hT p hp
        refine ⟨ps', by rw [upd_ne (ne_of_none a1 nC), upd_ne hb]; exact a1, a2, fun p' cv hcv => ?_⟩
        obtain ⟨c0, e1, e2⟩ := a3 p' cv hcv
        exact ⟨c0, e1, hE _ _ e2 codeO_ne⟩
    have nF := I1.hok.fresh (Nat.le_refl _)
    have I2 := inv_fz (o := PySem.W.kla_obj "<lambda>" (X.env.qual ++ "<lambda>") params body scope (cloFrom X.env.cells scope.names []) ((X.mg "__name__").getD .none) c' ctv) (t' := tk) I1 rfl
    refine h h'.objs.size c' _ ctv _ _ I2 (fun b o e n => ?_) (fun b e => upd_none (upd_none (upd_none e))) (T1.ext fun b o e => ?_) (I.hok.fresh (Nat.le_trans hge (Nat.le_of_lt hlt))) upd_same ?_
    · have e1 := hE b o e n
      exact (upd_ne (ne_of_none e1 nF)).trans e1
    · exact (upd_ne (ne_of_none e nF)).trans e
    · exact (upd_ne (Nat.ne_of_lt hlt)).trans upd_same
  | some cv =>
    obtain ⟨c', e, hco⟩ := ha pos cv hc
    subst e
    refine PySem.W.kla_makeFunctionHit (mg := X.mg) (c := c) (P := P) (ps := ps) (closure_ok hfree) I.ok.glob (I.mod.glob.keeps I.bk) hcode (TB.code.keeps I.bk) hP' ht hc bP fun ctv h' tk hx hsz => ?_
    have I1 : Inv X pins σ H { s with heap := h', toks := tk } := I.kept hx
    have nF : H h'.objs.size = none := I1.hok.fresh (Nat.le_refl _)
    have I2 := inv_fz (o := PySem.W.kla_obj "<lambda>" (X.env.qual ++ "<lambda>") params body scope (cloFrom X.env.cells scope.names []) ((X.mg "__name__").getD .none) c' ctv) (t' := tk) I1 rfl
    refine h h'.objs.size c' _ ctv _ _ I2 (fun b o e n => ?_) (fun b e => upd_none e) (hT.ext fun b o e => ?_) nF upd_same ?_
    · exact (upd_ne (ne_of_none e nF)).trans e
    · exact (upd_ne (ne_of_none e nF)).trans e
    · exact (upd_ne (ne_of_none hco nF)).trans hco
end
/-- the reading of a lambda's making -/
def tLamV (T : List (Addr × Str)) (mk : Value → Addr → Value → Obj) (q : Str) : TE := fun _ H Q => Tabs T H ∧ ∀ (f c' : Addr) (pm ctv : Value) (H1 : Hp), ExtN H H1 → (∀ b, H1 b = Option.none → H b = Option.none) → Tabs T H1 → H f = none →
  H1 f = some (Fz (mk pm c' ctv)) → H1 c' = some (CodeO c' q) → Q (.ref f) H1
theorem pe_lam {X : Cx} {T : List (Addr × Str)} {c P : Addr} {params : Arguments} {body : Expr} {scope : Scope} {pos : Pos} {q : Str} (hq : X.env.qual ++ "<lambda>" = q) (TB : TabB X.base X.mg c P) (hcode : X.env.code = .ref c)
    (hm : (P, q) ∈ T) (hu : ∀ p ∈ T, p.1 = P → p.2 = q) (hdef : defaultsOf params X.env = ([], []))
    (hfree : ∀ y ∈ scope.names, y.2 = .free → X.env.scope.names.lookup y.1 = some .cell ∨ X.env.scope.names.lookup y.1 = some .free) :
    PE X (.Lambda params body scope pos) (tLamV T (fun pm c' ctv => PySem.W.kla_obj "<lambda>" q params body scope (cloFrom X.env.cells scope.names []) pm c' ctv) q) := by
  subst hq
  refine ⟨fun pins s σ H Q I h => ?_⟩
  obtain ⟨hT, h⟩ := h
  exact lam_make3 I TB hcode hm hu hT hdef (fun y hy e => (hfree y hy e).elim (fun z => I.ok.has _ (.inl z)) fun z => I.ok.has _ (.inr z)) fun f c' pm ctv H1 s' I1 eN nn T1 f0 f1 c1 =>
    ⟨.ref f, H1, I1, rfl, h f c' pm ctv H1 eN nn T1 f0 f1 c1⟩

/-! ### a function value and its promise -/
def IsFz (H : Hp) (f : Addr) : Prop := ∃ (oc : Value) (od : Option Addr) (fd : FuncData) (sl : Array (Option Value)), H f = some (Fz ⟨oc, od, .func fd, sl⟩)
theorem fnAt_fz {P : Program} {w : World} {H : Hp} {h : Heap} {f : Addr} (hok : HOk P w H h) (e : IsFz H f) : PySem.W.FnAt f h := by
  obtain ⟨oc, od, fd, sl, e⟩ := e
  exact ⟨oc, od, fd, sl, fz_at hok e⟩
/-- calling the function at f with positional arguments keeps sp -/
structure FnV (P : Program) (w : World) (K : PySem.W.Frag) (mg : Str → Option Value) (base : Heap) (k : Nat) (f : Addr) (sp : Sp) : Prop where
  run : ∀ (A : Around) (outer : List Env) (s : Shared) (H : Hp) (us : List Value) (vs : List V) (Q : VK), Room k A → Env0 P w K mg base A outer s H → Vals vs us → sp vs H Q E0 →
    codeAny (model P w) A (.call (.ref f) ⟨us, []⟩) (CR CX0 outer P w H s Q E0) s
theorem FnV.mono {P : Program} {w : World} {K : PySem.W.Frag} {mg : Str → Option Value} {base : Heap} {j k : Nat} {f : Addr} {sp : Sp} (F : FnV P w K mg base j f sp) (h : j ≤ k) : FnV P w K mg base k f sp :=
  ⟨fun A outer s H us vs Q hr => F.run A outer s H us vs Q (hr.mono h)⟩
section
variable {X : Cx} {k : Nat} {f : Addr} {sp : Sp} {e : Expr} {es : List Expr} {t : TA} {x : Str} {p pos : Pos} {i : Nat}
theorem run_v {pins : List (Addr × Obj)} {σ : L2.St} {H : Hp} {s : Shared} {Q : VK} {us : List Value} {vs : List V} (F : FnV X.prog X.w X.K X.mg X.base k f sp) (hr : Room k X.A) (I : Inv X pins σ H s) (r : Vals vs us) (h : sp vs H Q E0) :
    wpAny (model X.prog X.w) X.A (call (.ref f) us) (EP X pins σ Q) X.xe s := by
  refine wpAny_call (codeAny_mono (F.run X.A X.stack s H us vs Q hr I.env0 r h) fun r s' hq => ?_)
  cases r with
  | error e => exact False.elim hq
  | ok fl =>
    cases fl with
    | ret u => exact I.after hq
    | next => exact False.elim hq
    | brk => exact False.elim hq
    | cont => exact False.elim hq
/-- x(e, ..), x a name of the def that holds a function -/
def tCallV (i : Nat) (f : Addr) (sp : Sp) (t : TA) : TE := fun σ H Q => σ[i]? = some (some (.ref f)) ∧ IsFz H f ∧ t σ H fun vs H1 => IsFz H1 f ∧ sp vs H1 Q E0
theorem pe_callV (F : FnV X.prog X.w X.K X.mg X.base k f sp) (hr : Room k X.A) (ha : PA X (e :: es) t) (hN : X.N[i]? = some x := by rfl) (hv : Vis X.env.scope x := by first | exact Or.inl rfl | exact Or.inr (Or.inl rfl) | exact Or.inr (Or.inr rfl))
    (hd : (x == ("__debug__" : Str)) = false := by decide) (hcd : (x == ("__classdict__" : Str)) = false := by decide)
    (he : starEach (e :: es) X.env = (false, eval e X.env) :: starEach es X.env := by rfl) (hpl : (backTo pos (starEach es X.env)).any (·.1) = false := by rfl) :
    PE X (.Call (.Name x p) (e :: es) [] pos) (tCallV i f sp t) := by
  refine ⟨fun pins s σ H Q I h => ?_⟩
  obtain ⟨hs, hf, ht⟩ := h
  refine wpAny_Call_Name_kw (thn ((pe_var (pos := p) hN hv hd hcd).run pins s σ H (fun v H1 => v = .ref f ∧ H1 = H) I ⟨.ref f, hs, rfl, rfl⟩) fun u s1 ⟨v, H1, I1, r1, q1⟩ => ?_)
  obtain ⟨ev, eH⟩ := q1
  subst ev
  rw [eH] at I1
  obtain rfl : u = Value.ref f := r1
  exact PySem.W.callWith_F (first := []) (fnAt_fz I1.hok hf) (thn (ha.run pos pins s1 σ H _ I1 ht) fun us s2 ⟨vs, H2, I2, r, h1, q⟩ => ⟨fnAt_fz I2.hok h1, run_v F hr I2 r q⟩) he hpl
end
/-! ### o.f(e, ..), f a field that holds a function -/
theorem method_field {prog : Program} {w : World} {A : Around} {s : Shared} {K : PySem.W.Frag} {x C : Addr} {ox : Obj} {od : Option Obj} {name : Str} {pl : Sem Bool} {E : Value → Shared → Prop} {Q : Value × List Value → Shared → Prop}
    (X : K.In s.heap) (I : PySem.W.InstAt s.heap x ox C od) (hga : PySem.W.findIn K (.ref C) "__getattribute__" = some (some (.builtin "object.__getattribute__"))) (hk : PySem.W.findIn K (.ref C) "__getattr__" = some none)
    (hf : PySem.W.findIn K (.ref C) name = some none) (h : wpAny (model prog w) A (getAttr (.ref x) name) (fun v s' => Q (v, []) s') E s) :
    wpAny (model prog w) A (getMethod (.ref x) name pl) Q E s := by
  have hcan := PySem.F.canon_object_ga
  unfold getMethod specialOf
  refine wpAny_bind (wpAny_bind (I.type.here ((PySem.W.looks_findIn X hga).here ?_)))
  dsimp only
  rw [hcan, if_neg (by decide)]
  refine wpAny_bind (wpAny_bind (I.type.here ((PySem.W.looks_findIn X hk).here ?_)))
  refine wpAny_bind (wpAny_bind (I.type.here ((PySem.W.looks_findIn X hf).here ?_)))
  exact wpAny_bind (wpAny_mono h (fun v s' q => wpAny_pure q) fun _ _ z => z)
theorem getfn_ok {X : Cx} {pins : List (Addr × Obj)} {σ : L2.St} {H : Hp} {s : Shared} {a C dx f : Addr} {fs : List (Str × V)} {m : Str} {pl : Sem Bool} {E : Value → Shared → Prop} {Q : Value × List Value → Shared → Prop} (I : Inv X pins σ H s) (e : H a = some (.ins C dx fs)) (c : Cls X.K C) (n : NoAttr X.K C m)
    (l : fs.lookup m = some (.ref f)) (h : ∀ s', Inv X pins σ H s' → Q (.ref f, []) s') : wpAny (model X.prog X.w) X.A (getMethod (.ref a) m pl) Q E s := by
  obtain ⟨mA, O, r, _, _, _⟩ := ins_get I.hok e
  obtain ⟨od, J, hl⟩ := O.look
  refine method_field I.kIn J (PySem.W.plainGet_of (c.get m)).1 (PySem.W.plainGet_of (c.get m)).2 n ?_
  refine getattr_ok I e c n l fun u s' I' ru => ?_
  obtain rfl : u = Value.ref f := ru
  exact h s' I'
section
variable {X : Cx} {k : Nat} {f C : Addr} {sp : Sp} {o e : Expr} {es : List Expr} {ta : TE} {t : TA} {m : Str} {apos pos : Pos}
def tCallF (K : PySem.W.Frag) (m : Str) (f : Addr) (sp : Sp) (ta : TE) (t : TA) : TE := fun σ H Q => ta σ H fun x H1 => ∃ a C dx fs, x = .ref a ∧ H1 a = some (.ins C dx fs) ∧ Cls K C ∧ NoAttr K C m ∧ fs.lookup m = some (.ref f) ∧ IsFz H1 f ∧
  t σ H1 fun vs H2 => IsFz H2 f ∧ sp vs H2 Q E0
theorem pe_callF {pl : Sem Bool} (he : PE X o ta) (F : FnV X.prog X.w X.K X.mg X.base k f sp) (hr : Room k X.A) (ha : PA X (e :: es) t)
    (hst : starEach (e :: es) X.env = (false, eval e X.env) :: starEach es X.env := by rfl) (hpl : (backTo pos (starEach es X.env)).any (·.1) = false := by rfl)
    (ht : eval (.Call (.Attribute o m apos) (e :: es) [] pos) X.env = (do
      let ov ← eval o X.env
      standAt apos.atName
      let (f, first) ← holding [ov] (getMethod ov m pl)
      callWith pos f first (backTo pos (starEach (e :: es) X.env)) (backToKw pos (keywordEach [] X.env))) := by rfl) :
    PE X (.Call (.Attribute o m apos) (e :: es) [] pos) (tCallF X.K m f sp ta t) := by
  refine ⟨fun pins s σ H Q I h => ?_⟩
  refine PySem.W.methodCall_KW (pl := pl) (thn (he.run pins s σ H _ I h) fun u s1 ⟨x, H1, I1, rx, a, C, dx, fs, ex, ea, c, n, l, hf, q⟩ => ?_) ht
  subst ex
  obtain rfl : u = Value.ref a := rx
  refine getfn_ok I1 ea c n l fun s1' I1' => ?_
  exact PySem.W.callWith_F (first := []) (fnAt_fz I1'.hok hf) (thn (ha.run pos pins s1' σ H1 _ I1' q) fun us s2 ⟨vs, H2, I2, r, h1, q2⟩ => ⟨fnAt_fz I2.hok h1, run_v F hr I2 r q2⟩) hst hpl
end

/-! ### the maker's cells, lent for a call -/
def strip (cs : List (Str × Addr)) (H : Hp) : Hp := fun b => if b ∈ cs.map (·.2) then none else H b
theorem strip_out {cs : List (Str × Addr)} {H : Hp} {b : Addr} (h : b ∉ cs.map (·.2)) : strip cs H b = H b := if_neg h
theorem strip_in {cs : List (Str × Addr)} {H : Hp} {b : Addr} (h : b ∈ cs.map (·.2)) : strip cs H b = none := if_pos h
theorem strip_some {cs : List (Str × Addr)} {H : Hp} {b : Addr} {o : HO} (h : strip cs H b = some o) : b ∉ cs.map (·.2) ∧ H b = some o := by
  by_cases hb : b ∈ cs.map (·.2)
  · rw [strip_in hb] at h
    cases h
  · rw [strip_out hb] at h
    exact ⟨hb, h⟩
/-- the cell at c holds v -/
def CellV (H : Hp) (c : Addr) (v : V) : Prop := ∃ (o : Obj) (u : Value), H c = some (Fz o) ∧ o.data = .cell (some u) ∧ RelV v u
/-- H2 is H with the cells cs lent; what the slots of captured names hold stands in them -/
structure Lent (X : Cx) (σ : L2.St) (H H2 : Hp) : Prop where
  out : ∀ b, b ∉ X.env.cells.map (·.2) → H2 b = H b
  none_ : ∀ b, b ∈ X.env.cells.map (·.2) → H b = none
  fz : ∀ b, b ∈ X.env.cells.map (·.2) → ∃ (o : Obj) (v : Option Value), H2 b = some (Fz o) ∧ o.data = .cell v
  inj : ∀ x y c, X.env.cells.lookup x = some c → X.env.cells.lookup y = some c → x = y
  has : ∀ x, (X.env.scope.names.lookup x = some .cell ∨ X.env.scope.names.lookup x = some .free) → ∃ c, X.env.cells.lookup x = some c
  val : ∀ (i : Nat) (x : Str) (v : V), X.N[i]? = some x → σ[i]? = some (some v) → (X.env.scope.names.lookup x = some .cell ∨ X.env.scope.names.lookup x = some .free) → ∃ c, X.env.cells.lookup x = some c ∧ CellV H2 c v
theorem Lent.keep {X : Cx} {σ : L2.St} {H H2 : Hp} (L : Lent X σ H H2) {b : Addr} {o : HO} (e : H b = some o) : H2 b = some o := by
  have hb : b ∉ X.env.cells.map (·.2) := fun z => by
    rw [L.none_ b z] at e
    cases e
  rw [L.out b hb]
  exact e
theorem lookup_mem2 {cs : List (Str × Addr)} {x : Str} {c : Addr} (e : cs.lookup x = some c) : c ∈ cs.map (·.2) := List.mem_map.mpr ⟨_, PySem.mem_of_lookup e, rfl⟩
/-- no name stands twice among the cells -/
def UniqC (cs : List (Str × Addr)) : Prop := ∀ b, b ∈ cs.map (·.2) → ∃ x, cs.lookup x = some b
section
variable {X : Cx} {pins : List (Addr × Obj)} {σ : L2.St} {H : Hp} {s s' : Shared}
def lendH (X : Cx) (s : Shared) (H : Hp) : Hp := fun b => if b ∈ X.env.cells.map (·.2) then (s.heap.get? b).map Fz else H b
theorem cell_at (I : Inv X pins σ H s) (un : UniqC X.env.cells) {b : Addr} (hb : b ∈ X.env.cells.map (·.2)) : H b = none ∧ ∃ (o : Obj) (v : Option Value), s.heap.get? b = some o ∧ o.data = .cell v := by
  obtain ⟨x, hx⟩ := un b hb
  obtain ⟨v, o, ho, hd⟩ := I.cell x b hx
  exact ⟨I.freeC x b hx, o, v, ho, hd⟩
theorem lendH_in (I : Inv X pins σ H s) {b : Addr} {o : Obj} (hb : b ∈ X.env.cells.map (·.2)) (ho : s.heap.get? b = some o) : lendH X s H b = some (Fz o) := by
  unfold lendH
  rw [if_pos hb, ho]
  rfl
theorem lendH_out {b : Addr} (hb : b ∉ X.env.cells.map (·.2)) : lendH X s H b = H b := if_neg hb
theorem lendH_ok (I : Inv X pins σ H s) (un : UniqC X.env.cells) : HOk X.prog X.w (lendH X s H) s.heap := by
  intro b u e
  by_cases hb : b ∈ X.env.cells.map (·.2)
  · obtain ⟨_, o, v, ho, _⟩ := cell_at I un hb
    rw [lendH_in I hb ho] at e
    cases e
    exact fz_ok ho
  · rw [lendH_out hb] at e
    have kp : ∀ c y, H c = some y → lendH X s H c = some y := fun c y z => by
      have hc : c ∉ X.env.cells.map (·.2) := fun q => by
        rw [(cell_at I un q).1] at z
        cases z
      rw [lendH_out hc]
      exact z
    exact (I.hok b u e).stay (fun _ _ _ q => q) (fun c q => kp c _ q) fun c xs q => kp c _ q
theorem lendH_lent (I : Inv X pins σ H s) (un : UniqC X.env.cells) : Lent X σ H (lendH X s H) := by
  refine ⟨fun b hb => lendH_out hb, fun b hb => (cell_at I un hb).1, fun b hb => ?_, I.ok.inj, fun x hk => I.ok.has x hk, fun i x v hN hs hk => ?_⟩
  · obtain ⟨_, o, v, ho, hd⟩ := cell_at I un hb
    exact ⟨o, v, lendH_in I hb ho, hd⟩
  · obtain ⟨m, hn, hl⟩ := I.loc
    obtain ⟨u, r, l⟩ := hl i x v hN hs (hk.elim (fun z => .inr (.inl z)) fun z => .inr (.inr z))
    rcases l with ⟨z, _⟩ | ⟨_, c, hc, o, ho, hd⟩
    · have z' : X.env.scope.names.lookup x = some .local := z
      rcases hk with k | k <;> rw [k] at z' <;> cases z'
    · exact ⟨c, hc, o, u, lendH_in I (lookup_mem2 hc) ho, hd, r⟩
theorem lend_env0 (I : Inv X pins σ H s) (un : UniqC X.env.cells) (hfn : ∀ x, X.fn x = true) : Env0 X.prog X.w X.K X.mg X.base X.A X.stack s (lendH X s H) := by
  have e0 := I.env0
  have ncell : ∀ b o, X.base.get? b = some o → b ∉ X.env.cells.map (·.2) := fun b o e hb => by
    obtain ⟨x, hx⟩ := un b hb
    exact absurd (Nat.lt_of_lt_of_le (Heap.lt_size (I.ok.bs b o e).1) (I.ok.cab x b (hfn x) hx)) (Nat.lt_irrefl _)
  refine ⟨e0.frames, e0.mod, fun b o e => ⟨(e0.bs b o e).1, by rw [lendH_out (ncell b o e)]; exact (e0.bs b o e).2⟩, e0.bsz, e0.funs, fun b hb => ?_, lendH_ok I un, e0.bare⟩
  have nb : b ∉ X.env.cells.map (·.2) := fun z => by
    rcases List.mem_cons.mp (I.stkSub b hb) with e | e
    · obtain ⟨x, hx⟩ := un b z
      exact I.cne x b hx e
    · obtain ⟨x, hx⟩ := un b z
      obtain ⟨_, o, ho, _⟩ := I.ok.funs.mem e
      exact absurd (Nat.lt_of_lt_of_le (Heap.lt_size ho) (I.ok.cab x b (hfn x) hx)) (Nat.lt_irrefl _)
  rw [lendH_out nb]
  exact e0.frf b hb
/-- behind a call with the cells lent -/
theorem lent_after {Q : VK} {u : Value} (I : Inv X pins σ H s) (un : UniqC X.env.cells) (h : CE X.stack X.prog X.w (lendH X s H) s (fun v H3 => Q v (strip X.env.cells H3)) u s') : EP X pins σ Q u s' := by
  obtain ⟨v, H3, os, bare, U, hok, r, q⟩ := h
  have cellIn : ∀ b, b ∈ X.env.cells.map (·.2) → ∃ o, s.heap.get? b = some o ∧ H3 b = some (Fz o) ∧ s'.heap.get? b = some o := fun b hb => by
    obtain ⟨_, o, v, ho, _⟩ := cell_at I un hb
    have e3 := U.frzs b o _ (lendH_in I hb ho)
    exact ⟨o, ho, e3, fz_at hok e3⟩
  have nIn : ∀ b y, H b = some y → b ∉ X.env.cells.map (·.2) := fun b y z q => by
    rw [(cell_at I un q).1] at z
    cases z
  have nFr : ∀ b, b ∈ X.env.cells.map (·.2) → ∀ y, strip X.env.cells H3 b ≠ some y := fun b hb y z => (strip_some z).1 hb
  have U4 : Un (frs X.stack) [] H (strip X.env.cells H3) s.heap s'.heap := by
    refine ⟨fun b o e n hf hx => ?_, fun b o e n hf hx => ?_, fun b o e n hx => ?_, U.there, fun b xs e => ?_, fun b o y e => ?_, fun b ps e => ?_⟩
    · by_cases hb : b ∈ X.env.cells.map (·.2)
      · obtain ⟨o', e1, _, e3⟩ := cellIn b hb
        rw [e] at e1
        cases e1
        exact e3
      · exact U.keep b o e (by rw [lendH_out hb]; exact n) hf hx
    · by_cases hb : b ∈ X.env.cells.map (·.2)
      · obtain ⟨o', e1, _, e3⟩ := cellIn b hb
        rw [e] at e1
        cases e1
        exact ⟨o.slots, e3⟩
      · exact U.slot b o e (by rw [lendH_out hb]; exact n) hf hx
    · by_cases hb : b ∈ X.env.cells.map (·.2)
      · exact strip_in hb
      · rw [strip_out hb]
        exact U.free b o e (by rw [lendH_out hb]; exact n) hx
    · have hb := nIn b _ e
      rw [strip_out hb]
      exact U.tups b xs (by rw [lendH_out hb]; exact e)
    · have hb := nIn b _ e
      rw [strip_out hb]
      exact U.frzs b o y (by rw [lendH_out hb]; exact e)
    · have hb := nIn b _ e
      rw [strip_out hb]
      exact U.tbls b ps (by rw [lendH_out hb]; exact e)
  have hok4 : HOk X.prog X.w (strip X.env.cells H3) s'.heap := by
    intro b y e
    obtain ⟨hb, e⟩ := strip_some e
    have kp : ∀ c z, H3 c = some z → (∀ o, z ≠ Fz o) → strip X.env.cells H3 c = some z := fun c z hz nz => by
      have hc : c ∉ X.env.cells.map (·.2) := fun q => by
        obtain ⟨o, _, e3, _⟩ := cellIn c q
        rw [e3] at hz
        exact nz o (Option.some.inj hz).symm
      rw [strip_out hc]
      exact hz
    exact (hok b y e).stay (fun _ _ _ q => q) (fun c q => kp c _ q fun o z => by cases z) fun c xs q => kp c _ q fun o z => by cases z
  obtain ⟨hh, g, d, t, os'⟩ := s'
  obtain rfl : os' = s.os := os
  exact ⟨v, strip X.env.cells H3, I.call (h' := hh) (g' := g) (d' := d) (t' := t) (ch := []) U4 hok4 bare (fun b z => absurd z (by simp)), r, q⟩
end
/-! ### calls with the cells lent -/
def lentQ (X : Cx) (Q : VK) : VK := fun v H3 => Q v (strip X.env.cells H3)
def tCallLent (X : Cx) (sp : Sp) (t : TA) : TE := fun σ H Q => t σ H fun vs H1 => ∀ H2, Lent X σ H1 H2 → sp vs H2 (lentQ X Q) E0
def tMethLent (X : Cx) (C : Addr) (m : Str) (sp : Sp) (ta : TE) (t : TA) : TE := fun σ H Q => ta σ H fun x H1 => ∃ a dx fs, x = .ref a ∧ H1 a = some (.ins C dx fs) ∧ fs.lookup m = none ∧
  t σ H1 fun vs H2 => ∀ H3, Lent X σ H2 H3 → sp (x :: vs) H3 (lentQ X Q) E0
section
variable {X : Cx} {k : Nat} {f C : Addr} {fd : FuncData} {ps : List Str} {sp : Sp} {x m : Str} {p pos apos : Pos} {e o : Expr} {es : List Expr} {ta : TE} {t : TA}
theorem run_lent {CX : CXT} {pins : List (Addr × Obj)} {σ : L2.St} {H : Hp} {s : Shared} {Q : VK} {us : List Value} {vs : List V} (F : FnOk X.prog X.w X.K X.mg X.base CX k f fd ps sp) (hr : Room k X.A) (hb : Binds X.K fd ps []) (un : UniqC X.env.cells) (hfn : ∀ x, X.fn x = true)
    (hCX : ∀ H s e s', CX X.stack H s E0 e s' → False) (I : Inv X pins σ H s) (r : Vals vs us) (h : ∀ H2, Lent X σ H H2 → sp vs H2 (lentQ X Q) E0) : wpAny (model X.prog X.w) X.A (call (.ref f) us) (EP X pins σ Q) X.xe s := by
  have hq := h (lendH X s H) (lendH_lent I un)
  have hl : us.length = ps.length := by rw [← r.length]; exact F.len _ _ _ _ hq
  have hbt := hb s us I.kIn (by rw [List.append_nil]; exact hl)
  rw [List.append_nil] at hbt
  refine wpAny_call (codeAny_mono (F.run X.A X.stack s (lendH X s H) ⟨us, []⟩ us vs _ E0 hr (lend_env0 I un hfn) hbt r hq) fun r s' hq => ?_)
  cases r with
  | error e => exact (hCX _ _ _ _ hq).elim
  | ok fl =>
    cases fl with
    | ret u => exact lent_after I un hq
    | next => exact False.elim hq
    | brk => exact False.elim hq
    | cont => exact False.elim hq
theorem pe_callLent {CX : CXT} (F : FnOk X.prog X.w X.K X.mg X.base CX k f fd ps sp) (hr : Room k X.A) (hg : Gl X x) (hm : X.mg x = some (.ref f)) (hk : PySem.W.keepIn X.K (.ref f) = true) (hb : Binds X.K fd ps []) (un : UniqC X.env.cells) (hfn : ∀ x, X.fn x = true)
    (hCX : ∀ H s e s', CX X.stack H s E0 e s' → False) (ha : PA X (e :: es) t) (hdb : (x == ("__debug__" : Str)) = false := by decide) (he : starEach (e :: es) X.env = (false, eval e X.env) :: starEach es X.env := by rfl) (hpl : (backTo pos (starEach es X.env)).any (·.1) = false := by rfl) :
    PE X (.Call (.Name x p) (e :: es) [] pos) (tCallLent X sp t) := by
  refine ⟨fun pins s σ H Q I h => ?_⟩
  refine wpAny_Call_Name_kw (ld_glob I hg hm ?_ hdb)
  refine PySem.W.callWith_K (h₀ := X.base) I.ok.mod.kin hk (thn (ha.run pos pins s σ H _ I h) fun us s1 ⟨vs, H1, I1, r, q⟩ => ⟨I1.kIn, ?_⟩) he hpl
  exact run_lent F hr hb un hfn hCX I1 r q
theorem pe_methLent {CX : CXT} {pl : Sem Bool} (he : PE X o ta) (c : Cls X.K C) (hm : Meth X.K C m f) (F : FnOk X.prog X.w X.K X.mg X.base CX k f fd ps sp) (hr : Room k X.A) (hb : Binds X.K fd ps []) (un : UniqC X.env.cells) (hfn : ∀ x, X.fn x = true)
    (hCX : ∀ H s e s', CX X.stack H s E0 e s' → False) (ha : PA X (e :: es) t)
    (hst : starEach (e :: es) X.env = (false, eval e X.env) :: starEach es X.env := by rfl) (hpl : (backTo pos (starEach es X.env)).any (·.1) = false := by rfl)
    (ht : eval (.Call (.Attribute o m apos) (e :: es) [] pos) X.env = (do
      let ov ← eval o X.env
      standAt apos.atName
      let (f, first) ← holding [ov] (getMethod ov m pl)
      callWith pos f first (backTo pos (starEach (e :: es) X.env)) (backToKw pos (keywordEach [] X.env))) := by rfl) :
    PE X (.Call (.Attribute o m apos) (e :: es) [] pos) (tMethLent X C m sp ta t) := by
  refine ⟨fun pins s σ H Q I h => ?_⟩
  refine PySem.W.methodCall_KW (pl := pl) (thn (he.run pins s σ H _ I h) fun u s1 ⟨x, H1, I1, rx, a, dx, fs, ex, ea, l, q⟩ => ?_) ht
  subst ex
  obtain rfl : u = Value.ref a := rx
  refine getmeth_ok I1 ea c hm l ?_
  refine PySem.W.callWith_K (first := [.ref a]) (h₀ := X.base) I.ok.mod.kin hm.kp (thn (ha.run pos pins s1 σ H1 _ I1 q) fun us s2 ⟨vs, H2, I2, r, q2⟩ => ⟨I2.kIn, ?_⟩) hst hpl
  exact run_lent (us := .ref a :: us) (vs := .ref a :: vs) F hr hb un hfn hCX I2 (.cons rfl r) q2
end

/-! ### a lambda's body -/
/-- the captured cells: lent, and what they hold -/
structure ClosAt (cl : List (Str × Addr)) (fr : List Str) (ws : List (Option V)) (H : Hp) : Prop where
  len : ws.length = fr.length
  all : ∀ b, b ∈ cl.map (·.2) → ∃ (o : Obj) (v : Option Value), H b = some (Fz o) ∧ o.data = .cell v
  inj : ∀ x y c, cl.lookup x = some c → cl.lookup y = some c → x = y
  has : ∀ (i : Nat) (y : Str), fr[i]? = some y → ∃ c, cl.lookup y = some c ∧ ∀ v, ws[i]? = some (some v) → CellV H c v
/-- H' with the cells of H put back -/
def relend (cs : List (Str × Addr)) (H H' : Hp) : Hp := fun b => if b ∈ cs.map (·.2) then H b else H' b
abbrev lamNF (q : Str) (params : Arguments) (scope : Scope) (cl : List (Str × Addr)) (c' : Addr) : NdefX.NF := ⟨"<lambda>", q, params, [], scope, cl, c'⟩
section
variable {P : Program} {w : World} {K : PySem.W.Frag} {mg : Str → Option Value} {base : Heap} {N ps fr : List Str} {k : Nat}
theorem fnv_lam {params : Arguments} {body : Expr} {scope : Scope} {cl : List (Str × Addr)} {pm ctv : Value} {c' f : Addr} {q : Str} {sp : Sp} {ws : List (Option V)} (S : NdefX.NScope N ps fr scope)
    (hb : ∀ us : List Value, us.length = ps.length → bindArgs (PySem.W.kla_fn "<lambda>" q params body scope cl pm (.ref c') ctv) ⟨us, []⟩ = pure (ps.zip us))
    (hsp : ∀ vs H Q, sp vs H Q E0 → vs.length = ps.length ∧ H f = some (Fz (PySem.W.kla_obj "<lambda>" q params body scope cl pm c' ctv)) ∧ H c' = some (CodeO c' q) ∧ ClosAt cl fr ws H)
    (hbody : ∀ (A : Around) (outer : List Env) (s : Shared) (H : Hp) (vs : List V) (Q : VK), Room k (A.deeper (NdefX.envF (lamNF q params scope cl c') f s.heap.objs.size)) → sp vs H Q E0 →
      ∃ t, PE (NdefX.ncx CX0 P w K mg base N (lamNF q params scope cl c') f A outer s (strip cl H) E0).nox body t ∧ t (NdefX.startF N vs ws) (strip cl H) fun v H' => (∀ b, b ∈ cl.map (·.2) → H' b = Option.none) → Q v (relend cl H H')) :
    FnV P w K mg base (k + 1) f sp := by
  refine ⟨fun A outer s H us vs Q hr e0 r h => ?_⟩
  obtain ⟨hl, hf, hc, C⟩ := hsp vs H Q h
  have lim : s.heap.NoLimit := e0.mod.nolimit.keeps fun b o e => (e0.bs b o e).1
  have of1 := fz_at e0.hok hf
  obtain ⟨⟨oc, ys, tq, hoc, hdc, hvc⟩, _, _⟩ := e0.hok c' _ hc
  refine PySem.W.kla_callFunE hr.depth of1 rfl S.co S.gen rfl ⟨c', oc, ys, tq, rfl, hoc, hdc, hvc⟩ ?_
  rw [hb us (by rw [← r.length]; exact hl)]
  refine wpAny_pure (wpAny_newFunctionEnv S.nocell (fun ⟨n, _⟩ hy => S.par n (List.of_mem_zip hy).1) (fun h₁ hns hsb => ⟨lim.fresh _ hsb, ?_⟩) S.kind)
  show codeAny _ _ (.expr body (NdefX.envF (lamNF q params scope cl c') f s.heap.objs.size)) _ _
  have kp : ∀ b o, s.heap.get? b = some o → h₁.get? b = some o := fun b o e => hsb.extBut b o (Nat.ne_of_lt (Heap.lt_size e)) (Heap.get?_push_of_some _ e)
  obtain ⟨t, ht, hq⟩ := hbody A outer s H vs Q (hr.deeper _) h
  -- the state without the captured cells
  have cellAt : ∀ b, b ∈ cl.map (·.2) → ∃ (o : Obj) (v : Option Value), H b = some (Fz o) ∧ s.heap.get? b = some o ∧ o.data = .cell v := fun b hb => by
    obtain ⟨o, v, e, hd⟩ := C.all b hb
    exact ⟨o, v, e, fz_at e0.hok e, hd⟩
  have kS : ∀ c z, H c = some z → (∀ o, z ≠ Fz o) → strip cl H c = some z := fun c z hz nz => by
    have hc : c ∉ cl.map (·.2) := fun q => by
      obtain ⟨o, _, e3, _⟩ := C.all c q
      rw [e3] at hz
      exact nz o (Option.some.inj hz).symm
    rw [strip_out hc]
    exact hz
  have hokS : HOk P w (strip cl H) s.heap := fun b y e => by
    obtain ⟨_, e⟩ := strip_some e
    exact (e0.hok b y e).stay (fun _ _ _ q => q) (fun c q => kS c _ q fun o z => by cases z) fun c xs q => kS c _ q fun o z => by cases z
  have nS : ∀ b, H b = none → strip cl H b = none := fun b e => by
    by_cases hb : b ∈ cl.map (·.2)
    · exact strip_in hb
    · rw [strip_out hb]
      exact e
  have e1 : Env0 P w K mg base A outer s (strip cl H) := ⟨e0.frames, e0.mod, fun b o e => ⟨(e0.bs b o e).1, nS b (e0.bs b o e).2⟩, e0.bsz, e0.funs, fun b hb => nS b (e0.frf b hb), hokS, e0.bare⟩
  have CA : NdefX.CellsAt cl fr ws s.heap (strip cl H) := by
    refine ⟨C.len, fun y c e => ?_, C.inj, fun i y e => ?_⟩
    · obtain ⟨o, v, _, e2, e3⟩ := cellAt c (lookup_mem2 e)
      exact ⟨strip_in (lookup_mem2 e), v, o, e2, e3⟩
    · obtain ⟨c, hc, hv⟩ := C.has i y e
      refine ⟨c, hc, fun v ev => ?_⟩
      obtain ⟨o, u, e2, e3, ru⟩ := hv v ev
      exact ⟨u, ru, o, fz_at e0.hok e2, e3⟩
  have I : Inv (NdefX.ncx CX0 P w K mg base N (lamNF q params scope cl c') f A outer s (strip cl H) E0) [] (NdefX.startF N vs ws) (strip cl H) { s with heap := h₁, toks := s.toks + (ps.zip us).length } :=
    NdefX.inv_startN S hr.hd e1 hl r CA hns kp
  refine PySem.W.kla_codeExpr (wpAny_mono (ht.nox.run [] _ (NdefX.startF N vs ws) (strip cl H) _ I hq) (fun u s' hs => ?_) fun e s' hs => wpAny_mono hs (fun _ _ z => z.elim) fun _ _ z => z.elim)
  obtain ⟨v, H', J, rv, qv⟩ := hs
  have U : Un (frs outer) [] (strip cl H) H' s.heap s'.heap := J.base
  have cellLater : ∀ b, b ∈ cl.map (·.2) → ∃ o, H b = some (Fz o) ∧ s'.heap.get? b = some o := fun b hb => by
    obtain ⟨o, v, e1, e2, _⟩ := cellAt b hb
    refine ⟨o, e1, U.keep b o e2 (strip_in hb) (fun z => ?_) (by simp)⟩
    have := e0.frf b z
    rw [e1] at this
    cases this
  have inR : ∀ b, b ∈ cl.map (·.2) → relend cl H H' b = H b := fun b hb => if_pos hb
  have outR : ∀ b, b ∉ cl.map (·.2) → relend cl H H' b = H' b := fun b hb => if_neg hb
  have fS : ∀ b, b ∈ cl.map (·.2) → H' b = none := fun b hb => by
    obtain ⟨o, v, _, e2, _⟩ := cellAt b hb
    exact U.free b o e2 (strip_in hb) (by simp)
  refine ⟨v, relend cl H H', J.os, J.bare, ⟨fun b o e n hf hx => ?_, fun b o e n hf hx => ?_, fun b o e n hx => ?_, U.there, fun b xs e => ?_, fun b o y e => ?_, fun b ps e => ?_⟩, fun b y e => ?_, rv, qv fS⟩
  · exact U.keep b o e (nS b n) hf hx
  · exact U.slot b o e (nS b n) hf hx
  · by_cases hb : b ∈ cl.map (·.2)
    · rw [inR b hb]
      exact n
    · rw [outR b hb]
      exact U.free b o e (nS b n) hx
  · by_cases hb : b ∈ cl.map (·.2)
    · rw [inR b hb]
      exact e
    · rw [outR b hb]
      exact U.tups b xs (by rw [strip_out hb]; exact e)
  · by_cases hb : b ∈ cl.map (·.2)
    · rw [inR b hb]
      exact e
    · rw [outR b hb]
      exact U.frzs b o y (by rw [strip_out hb]; exact e)
  · by_cases hb : b ∈ cl.map (·.2)
    · rw [inR b hb]
      exact ⟨#[], by rw [e]; simp⟩
    · rw [outR b hb]
      exact U.tbls b ps (by rw [strip_out hb]; exact e)
  · by_cases hb : b ∈ cl.map (·.2)
    · obtain ⟨o, e1, e2⟩ := cellLater b hb
      rw [inR b hb, e1] at e
      cases e
      exact fz_ok e2
    · rw [outR b hb] at e
      have kp2 : ∀ c z, H' c = some z → relend cl H H' c = some z := fun c z hz => by
        have hc : c ∉ cl.map (·.2) := fun q => by
          rw [fS c q] at hz
          cases hz
        rw [outR c hc]
        exact hz
      exact (J.hok b y e).stay (fun _ _ _ q => q) (fun c q => kp2 c _ q) fun c xs q => kp2 c _ q
end
end Ord

namespace Ord
open PySem PySem.Spec PyProof.Rows L2 LamX
/-! ### how heaps follow one another -/
/-- what never changes -/
def Fixed : HO → Prop
  | .tup _ => True
  | .frz _ _ => True
  | .ext _ => True
  | _ => False
/-- the tuples stand -/
def TK (H H' : Hp) : Prop := ∀ b xs, H b = some (.tup xs) → H' b = some (.tup xs)
/-- all but q stands, the tuples stand -/
structure KB (q : Addr) (H H' : Hp) : Prop where
  keep : ∀ b o, b ≠ q → H b = some o → H' b = some o
  tk : TK H H'
/-- q stands, and what never changes -/
def Stay (q : Addr) (H H' : Hp) : Prop := ∀ b o, H b = some o → (b = q ∨ Fixed o) → H' b = some o
theorem TK.refl (H : Hp) : TK H H := fun _ _ h => h
theorem TK.trans {H H1 H2 : Hp} (a : TK H H1) (b : TK H1 H2) : TK H H2 := fun c xs h => b c xs (a c xs h)
theorem KB.refl (q : Addr) (H : Hp) : KB q H H := ⟨fun _ _ _ h => h, TK.refl H⟩
theorem KB.trans {q : Addr} {H H1 H2 : Hp} (a : KB q H H1) (b : KB q H1 H2) : KB q H H2 := ⟨fun c o n h => b.keep c o n (a.keep c o n h), a.tk.trans b.tk⟩
theorem KB.of_same {q : Addr} {H H' : Hp} (s : Same H H') : KB q H H' := ⟨fun b o _ h => s b o h, fun b xs h => s b _ h⟩
theorem KB.new {q p : Addr} {H : Hp} {o : HO} (n : H p = none) : KB q H (upd H p o) := .of_same fun b u e => by rw [upd_ne (ne_of_none e n)]; exact e
/-- p, new since H, is written -/
theorem KB.wr {q p : Addr} {H H' : Hp} {o : HO} (k : KB q H H') (n : H p = none) : KB q H (upd H' p o) :=
  ⟨fun b u hb e => by rw [upd_ne (ne_of_none e n)]; exact k.keep b u hb e, fun b xs e => by rw [upd_ne (ne_of_none e n)]; exact k.tk b xs e⟩
theorem Stay.of_same {q : Addr} {H H' : Hp} (s : Same H H') : Stay q H H' := fun b o h _ => s b o h
theorem Stay.new {q p : Addr} {H : Hp} {o : HO} (n : H p = none) : Stay q H (upd H p o) := .of_same fun b u e => by rw [upd_ne (ne_of_none e n)]; exact e
theorem Stay.trans {q : Addr} {H H1 H2 : Hp} (a : Stay q H H1) (b : Stay q H1 H2) : Stay q H H2 := fun c o h f => b c o (a c o h f) f
theorem Stay.wr {q p : Addr} {H : Hp} {o u : HO} (e : H p = some u) (nf : ¬ Fixed u) (hq : p ≠ q) : Stay q H (upd H p o) := fun b y h f => by
  have hb : b ≠ p := fun z => by
    rcases f with f | f
    · exact hq (z.symm.trans f)
    · rw [z, e] at h
      cases h
      exact nf f
  rw [upd_ne hb]
  exact h
theorem nf_lst {xs : List V} : ¬ Fixed (.lst xs) := fun z => z
theorem nf_ins {C dx : Addr} {fs : List (Str × V)} : ¬ Fixed (.ins C dx fs) := fun z => z
theorem Stay.tk {q : Addr} {H H' : Hp} (s : Stay q H H') : TK H H' := fun b xs e => s b _ e (.inr True.intro)
theorem Same.tk {H H' : Hp} (s : Same H H') : TK H H' := fun b xs e => s b _ e
theorem TK.new {p : Addr} {H : Hp} {o : HO} (n : H p = none) : TK H (upd H p o) := fun b u e => by rw [upd_ne (ne_of_none e n)]; exact e
theorem TK.wr {p : Addr} {H : Hp} {o u : HO} (e : H p = some u) (nf : ¬ Fixed u) : TK H (upd H p o) := fun b y h => by
  have hb : b ≠ p := fun z => by
    rw [z, e] at h
    cases h
    exact nf True.intro
  rw [upd_ne hb]
  exact h
/-- a row that questions don't change -/
def Row (K : PySem.W.Frag) (q : Addr) (H : Hp) (a : Addr) (xs : List V) : Prop := SqL K H a xs ∧ a ≠ q
theorem sq_keep {K : PySem.W.Frag} {H H' : Hp} {a : Addr} {xs : List V} (h : SqL K H a xs) (k : ∀ o, H a = some o → H' a = some o) : SqL K H' a xs := by
  rcases h with (h | ⟨o, h⟩) | h
  · exact .inl (.inl (k _ h))
  · exact .inl (.inr ⟨o, k _ h⟩)
  · exact .inr h
theorem Row.kb {K : PySem.W.Frag} {q : Addr} {H H' : Hp} {a : Addr} {xs : List V} (h : Row K q H a xs) (k : KB q H H') : Row K q H' a xs := ⟨sq_keep h.1 fun o e => k.keep a o h.2 e, h.2⟩
theorem Row.of {K : PySem.W.Frag} {q : Addr} {H : Hp} {a : Addr} {xs : List V} (h : H a = some (.lst xs)) (n : a ≠ q) : Row K q H a xs := ⟨SqL.of h, n⟩
theorem Row.ne {K : PySem.W.Frag} {q p : Addr} {H : Hp} {a : Addr} {xs : List V} {o : HO} (h : Row K q H a xs) (n : a ≠ p) : Row K q (upd H p o) a xs := ⟨sq_keep h.1 fun u e => by rw [upd_ne n]; exact e, h.2⟩
theorem Row.new {K : PySem.W.Frag} {q p : Addr} {H : Hp} {a : Addr} {xs : List V} {o : HO} (h : Row K q H a xs) (n : H p = none) : Row K q (upd H p o) a xs := ⟨sq_keep h.1 fun u e => by rw [upd_ne (ne_of_none e n)]; exact e, h.2⟩

/-! ### the function that is handed in -/
abbrev Lg := List (V × V)
/-- what a question asks and gives -/
def spAsk (q : Addr) (ans : Lg → V → V → Int) (Log : Lg → Hp → Prop) (Dom : V → Hp → Prop) : Sp := fun vs H Q _ => ∃ (x y : V) (l : Lg), vs = [x, y] ∧ Log l H ∧ l.length < 100000 ∧ Dom x H ∧ Dom y H ∧
  ∀ H', KB q H H' → Log (l ++ [(x, y)]) H' → Q (.int (ans l x y)) H'
structure Orc (P : Program) (w : World) (K : PySem.W.Frag) (mg : Str → Option Value) (base : Heap) where
  f : Addr
  q : Addr
  ans : Lg → V → V → Int
  Log : Lg → Hp → Prop
  Dom : V → Hp → Prop
  isf : ∀ {l H}, Log l H → IsFz H f
  isq : ∀ {l H}, Log l H → H q ≠ Option.none
  stay : ∀ {l H H'}, Stay q H H' → Log l H → Log l H'
  dom : ∀ {x H H'}, TK H H' → Dom x H → Dom x H'
  run : FnV P w K mg base 3 f (spAsk q ans Log Dom)
section
variable {P : Program} {w : World} {K : PySem.W.Frag} {mg : Str → Option Value} {base : Heap} (O : Orc P w K mg base)
/-- all of a row may be asked of -/
def Orc.All (xs : List V) (H : Hp) : Prop := ∀ x ∈ xs, O.Dom x H
variable {O}
theorem Orc.All.tk {xs : List V} {H H' : Hp} (h : O.All xs H) (k : TK H H') : O.All xs H' := fun x hx => O.dom k (h x hx)
theorem Orc.All.get {xs : List V} {H : Hp} {i : Nat} {x : V} (h : O.All xs H) (e : xs[i]? = some x) : O.Dom x H := h x (List.mem_of_getElem? e)
theorem Orc.nq {l : Lg} {H : Hp} {p : Addr} (h : O.Log l H) (n : H p = none) : p ≠ O.q := fun z => O.isq h (by rw [← z]; exact n)
theorem Orc.new {l : Lg} {H : Hp} {p : Addr} {o : HO} (h : O.Log l H) (n : H p = none) : O.Log l (upd H p o) := O.stay (Stay.new n) h
theorem Orc.wr {l : Lg} {H : Hp} {p : Addr} {o u : HO} (h : O.Log l H) (e : H p = some u) (nf : ¬ Fixed u) (hq : p ≠ O.q) : O.Log l (upd H p o) := O.stay (Stay.wr e nf hq) h
end
end Ord
namespace Ord
open PySem PySem.Spec PyProof.Rows L2 LamX
theorem KB.free {q p : Addr} {H H' : Hp} (k : KB q H H') (hq : p ≠ q) (n : H' p = none) : H p = none := by
  cases e : H p with
  | none => rfl
  | some o =>
    rw [k.keep p o hq e] at n
    cases n
theorem cut_from {xs : List V} {i : Nat} (h : i ≤ xs.length) : cutV xs (some (i : Int)) none = xs.drop i := by
  unfold cutV
  rw [HT.sIx_nat, HT.sIx_none, Nat.min_eq_left h, List.take_of_length_le (by rw [List.length_drop]; omega)]
theorem cut_to {xs : List V} {i : Nat} (h : i ≤ xs.length) : cutV xs none (some (i : Int)) = xs.take i := by
  unfold cutV
  rw [HT.sIx_nat, HT.sIx_none, Nat.min_eq_left h, List.drop_zero, Nat.sub_zero]
theorem cut_from1 (xs : List V) (i : Nat) : cutV xs (some (i : Int)) none = xs.drop i := by
  unfold cutV
  rw [HT.sIx_nat, HT.sIx_none]
  by_cases h : i ≤ xs.length
  · rw [Nat.min_eq_left h, List.take_of_length_le (by rw [List.length_drop]; omega)]
  · rw [Nat.min_eq_right (by omega), List.drop_of_length_le (Nat.le_refl _), List.drop_of_length_le (by omega)]
    simp
theorem cut_to1 (xs : List V) (i : Nat) : cutV xs none (some (i : Int)) = xs.take i := by
  unfold cutV
  rw [HT.sIx_nat, HT.sIx_none, List.drop_zero, Nat.sub_zero]
  by_cases h : i ≤ xs.length
  · rw [Nat.min_eq_left h]
  · rw [Nat.min_eq_right (by omega), List.take_of_length_le (Nat.le_refl _), List.take_of_length_le (by omega)]
theorem z1000 {n : Nat} (h : n ≤ 1000) : n ≤ sizeLine := Nat.le_of_lt (small1000 h)
/-- a test whose answer is told -/
theorem iteB {c : Bool} {A B : Prop} (h1 : c = true → A) (h2 : c = false → B) : if c = true then A else B := by
  cases c with
  | true => exact iteT (h1 rfl)
  | false => exact iteF (h2 rfl)
theorem iteD {p : Prop} [Decidable p] {A B : Prop} (h1 : p → A) (h2 : ¬ p → B) : if decide p = true then A else B := iteB (fun e => h1 (of_decide_eq_true e)) fun e => h2 (of_decide_eq_false e)
end Ord
namespace Ord
open PySem PySem.Spec PyProof.Rows L2 LamX
/-! ### operators whose answer is named by the one who asks -/
def rE (C : Int → Int → Prop) (g : Int → Int → Int) : R2 := fun x y H Q => ∃ i j z : Int, x = .int i ∧ y = .int j ∧ C i j ∧ z = g i j ∧ Q (.int z) H
def rE0 (g : Int → Int → Int) : R2 := fun x y H Q => ∃ i j z : Int, x = .int i ∧ y = .int j ∧ z = g i j ∧ Q (.int z) H
section
variable {X : Cx}
theorem opE {f : Value → Value → Sem Value} {C : Int → Int → Prop} {g : Int → Int → Int} (h : OpR X f (rI C fun i j => .int (g i j))) : OpR X f (rE C g) := by
  intro pins s σ H x y v u Q I rx ry q
  obtain ⟨i, j, z, e1, e2, hc, rfl, q⟩ := q
  exact h pins s σ H x y v u Q I rx ry ⟨i, j, e1, e2, hc, q⟩
theorem opE0 {f : Value → Value → Sem Value} {g : Int → Int → Int} (h : OpR X f (rI0 fun i j => .int (g i j))) : OpR X f (rE0 g) := by
  intro pins s σ H x y v u Q I rx ry q
  obtain ⟨i, j, z, e1, e2, rfl, q⟩ := q
  exact h pins s σ H x y v u Q I rx ry ⟨i, j, e1, e2, q⟩
theorem op_fdivE : OpR X (binaryOp .FloorDiv) (rE CDiv fun i j => i / j) := opE op_fdiv
theorem op_addE : OpR X (binaryOp .Add) (rE0 fun i j => i + j) := opE0 op_add
theorem op_subE : OpR X (binaryOp .Sub) (rE0 fun i j => i - j) := opE0 op_sub
theorem op_mulE : OpR X (binaryOp .Mult) (rE CMul fun i j => i * j) := opE op_mul
theorem op_modE : OpR X (binaryOp .Mod) (rE (fun _ j => 0 < j) fun i j => i % j) := opE op_mod
end
end Ord
namespace Ord
open PySem PySem.Spec PyProof.Rows L2 LamX
/-! ### defs of the text by name -/
structure Df (K : PySem.W.Frag) (mg : Str → Option Value) (x : Str) (st : Stmt) (ps : List Str) where
  f : Addr
  fd : FuncData
  F : Fun K x x st f fd
  g : mg x = some (.ref f)
  b : Binds K fd ps []
section
variable {X : Cx} {k : Nat} {x : Str} {st : Stmt} {ps : List Str} {sp : Sp} {p pos : Pos} {e : Expr} {es : List Expr} {t : TA} {te : TE}
theorem pe_cd {d : Df X.K X.mg x st ps} (G : FnOk X.prog X.w X.K X.mg X.base CX0 k d.f d.fd ps sp) (hr : Room k X.A) (ha : PA X (e :: es) t) (hg : Gl X x := by rfl) (hdb : (x == ("__debug__" : Str)) = false := by decide)
    (he : starEach (e :: es) X.env = (false, eval e X.env) :: starEach es X.env := by rfl) (hpl : (backTo pos (starEach es X.env)).any (·.1) = false := by rfl) : PE X (.Call (.Name x p) (e :: es) [] pos) (tCall sp [] E0 t) :=
  pe_call G hr hg d.g d.F.kp d.b .nil pass0 ha hdb he hpl
theorem pe_cdLent {d : Df X.K X.mg x st ps} (G : FnOk X.prog X.w X.K X.mg X.base CX0 k d.f d.fd ps sp) (hr : Room k X.A) (un : UniqC X.env.cells) (hfn : ∀ x, X.fn x = true) (ha : PA X (e :: es) t) (hg : Gl X x := by rfl) (hdb : (x == ("__debug__" : Str)) = false := by decide)
    (he : starEach (e :: es) X.env = (false, eval e X.env) :: starEach es X.env := by rfl) (hpl : (backTo pos (starEach es X.env)).any (·.1) = false := by rfl) : PE X (.Call (.Name x p) (e :: es) [] pos) (tCallLent X sp t) :=
  pe_callLent G hr hg d.g d.F.kp d.b un hfn (fun _ _ _ _ z => z) ha hdb he hpl
/-- len(e): a list, a tuple -/
def rLen1 (K : PySem.W.Frag) : List V → Hp → VK → Prop := fun xs H Q => ∃ p ys, xs = [V.ref p] ∧ (SqL K H p ys ∨ SqT K H p ys) ∧ Q (.int (ys.length : Nat)) H
theorem pe_len (mL : X.mg "len" = none) (h : PE X e te) (hg : Gl X "len" := by rfl) (he : starEach [e] X.env = (false, eval e X.env) :: starEach [] X.env := by rfl) (hpl : (backTo pos (starEach [] X.env)).any (·.1) = false := by rfl) :
    PE X (.Call (.Name "len" p) [e] [] pos) (tCB (rLen1 X.K) (tCons te tNil)) :=
  pe_callB call_len_seq hg mL PySem.boot_len (pa_cons h pa_nil he) (by decide) (by decide) he hpl
end
theorem hu65 {A : Around} {k : Nat} (hr : Room k A) : A.units + 65 < cLine := Nat.lt_of_le_of_lt (Nat.add_le_add_left (by decide : 65 ≤ 200) _) (Nat.lt_of_le_of_lt (by omega) hr.un)
/-! ### cells: no name twice -/
theorem cells_keys : ∀ (names : List (Str × NameKind)) (n : Nat) (acc : List (Str × Addr)), (names.map (·.1)).Nodup → (acc.map (·.1)).Nodup → (∀ x ∈ names.map (·.1), x ∉ acc.map (·.1)) → ((cellsFrom n names acc).map (·.1)).Nodup
  | [], n, acc, _, h, _ => h
  | (y, k) :: r, n, acc, h1, h2, h3 => by
    rw [List.map_cons, List.nodup_cons] at h1
    unfold cellsFrom
    split
    · refine cells_keys r (n + 1) _ h1.2 ?_ fun x hx => ?_
      · rw [List.map_cons, List.nodup_cons]
        exact ⟨h3 y (by rw [List.map_cons]; exact List.mem_cons_self), h2⟩
      · rw [List.map_cons, List.mem_cons, not_or]
        refine ⟨fun e => ?_, h3 x (by rw [List.map_cons]; exact List.mem_cons_of_mem _ hx)⟩
        subst e
        exact h1.1 hx
    · exact cells_keys r n acc h1.2 h2 fun x hx => h3 x (by rw [List.map_cons]; exact List.mem_cons_of_mem _ hx)
theorem lookup_of_keys : ∀ {cs : List (Str × Addr)} {x : Str} {c : Addr}, (cs.map (·.1)).Nodup → (x, c) ∈ cs → cs.lookup x = some c
  | (y, d) :: r, x, c, h, hm => by
    rw [List.map_cons, List.nodup_cons] at h
    rw [List.lookup_cons]
    rcases List.mem_cons.mp hm with e | e
    · cases e
      simp
    · have hx : (x == y) = false := beq_eq_false_iff_ne.mpr fun z => by
        subst z
        exact h.1 (List.mem_map.mpr ⟨_, e, rfl⟩)
      rw [hx]
      exact lookup_of_keys h.2 e
theorem uniq_cells {names : List (Str × NameKind)} {n : Nat} (h : (names.map (·.1)).Nodup) : UniqC (cellsFrom n names []) := fun b hb => by
  obtain ⟨⟨x, c⟩, hm, e⟩ := List.mem_map.mp hb
  have e : c = b := e
  subst e
  exact ⟨x, lookup_of_keys (cells_keys names n [] h (by simp) (by simp)) hm⟩
end Ord
namespace Ord
open PySem PySem.Spec PyProof.Rows L2 LamX
theorem Same.new {H : Hp} {p : Addr} {o : HO} (n : H p = none) : Same H (upd H p o) := fun b u e => by rw [upd_ne (ne_of_none e n)]; exact e
/-- behind a new object -/
theorem kn {H : Hp} {p b : Addr} {o u : HO} (n : H p = none) (e : H b = some u) : upd H p o b = some u := (upd_ne (ne_of_none e n)).trans e
end Ord

/-! What the laws' helpers compute. -/
namespace Mir
def cellI (ns : List Int) (k : Nat) : Int := if ns = [] then (k : Int) * 7919 else ns.getD (k % ns.length) 0 + ((k / ns.length : Nat) : Int) * 104729
def moreI (c : Int) (k : Nat) : Int := (c * 6364136223846793005 + ((k : Int) + 1) * 1442695040888963407) % 340282366920938463463374607431768211507
def drawn (c : Int) (k : Nat) : Int := moreI c k * moreI c k % 340282366920938463463374607431768211297
theorem moreI_nn (c : Int) (k : Nat) : 0 ≤ moreI c k ∧ moreI c k < 340282366920938463463374607431768211507 := ⟨Int.emod_nonneg _ (by decide), Int.emod_lt_of_pos _ (by decide)⟩
theorem drawn_nn (c : Int) (k : Nat) : 0 ≤ drawn c k ∧ drawn c k < 340282366920938463463374607431768211297 := ⟨Int.emod_nonneg _ (by decide), Int.emod_lt_of_pos _ (by decide)⟩
/-- the law's draw at a cell -/
def dr (ns : List Int) (c k : Nat) : Int := drawn (cellI ns c) k
theorem dr_nn (ns : List Int) (c k : Nat) : 0 ≤ dr ns c k ∧ dr ns c k < 340282366920938463463374607431768211297 := drawn_nn _ _
/-! ### the least power of two -/
def clog (n : Nat) : Nat := if n ≤ 1 then 0 else clog ((n + 1) / 2) + 1
decreasing_by omega
theorem clog_lt : ∀ (k n : Nat), 2 ^ k < n ↔ k < clog n
  | 0, n => by
    rw [clog]
    split
    · simp; omega
    · simp; omega
  | k + 1, n => by
    have ih := clog_lt k ((n + 1) / 2)
    rw [clog]
    have e : 2 ^ (k + 1) = 2 * 2 ^ k := by rw [Nat.pow_succ]; omega
    split
    · have : 0 < 2 ^ k := Nat.pow_pos (by decide)
      omega
    · rw [e]
      omega
theorem clog_le {n k : Nat} : clog n ≤ k ↔ n ≤ 2 ^ k := by
  have h := clog_lt k n
  omega
theorem le_clog (n : Nat) : n ≤ 2 ^ clog n := clog_le.mp (Nat.le_refl _)
theorem clog_mono {m n : Nat} (h : m ≤ n) : clog m ≤ clog n := clog_le.mpr (Nat.le_trans h (le_clog n))
theorem clog_le_self (n : Nat) : clog n ≤ n := clog_le.mpr (Nat.le_of_lt Nat.lt_two_pow_self)
/-! ### the six orders -/
def b01 (b : Bool) : Int := if b then 1 else 0
def ansI (way : Int) (x y : Int × Int) : Int :=
  if way = 1 then 0 - (x.1 - y.1) else if way = 2 then x.1 / 3 - y.1 / 3
  else if way = 3 then (b01 (decide (0 < x.1 - y.1)) - b01 (decide (x.1 - y.1 < 0))) * (1 + (if x.2 < 0 then -x.2 else x.2) % 9)
  else if way = 4 then (x.1 - y.1) * 100000000000000000000
  else if way = 5 then (if x.1 - 4 < 0 then -(x.1 - 4) else x.1 - 4) - (if y.1 - 4 < 0 then -(y.1 - 4) else y.1 - 4)
  else x.1 - y.1
def keyI (way : Int) (x : Int × Int) : Int :=
  if way = 1 then 0 - x.1 else if way = 2 then x.1 / 3 else if way = 5 then (if x.1 - 4 < 0 then -(x.1 - 4) else x.1 - 4) else x.1
/-- answers that tell an order by a key -/
structure KeyA {α : Type} (ans : List (α × α) → α → α → Int) (key : α → Int) : Prop where
  pos : ∀ l x y, 0 < ans l x y ↔ key y < key x
  neg : ∀ l x y, ans l x y < 0 ↔ key x < key y
theorem KeyA.le {α : Type} {ans : List (α × α) → α → α → Int} {key : α → Int} (h : KeyA ans key) (l : List (α × α)) (x y : α) : ans l x y ≤ 0 ↔ key x ≤ key y := by
  have := h.pos l x y
  omega
theorem KeyA.eq {α : Type} {ans : List (α × α) → α → α → Int} {key : α → Int} (h : KeyA ans key) (l : List (α × α)) (x y : α) : ans l x y = 0 ↔ key x = key y := by
  have h1 := h.pos l x y
  have h2 := h.neg l x y
  omega
theorem KeyA.ge {α : Type} {ans : List (α × α) → α → α → Int} {key : α → Int} (h : KeyA ans key) (l : List (α × α)) (x y : α) : 0 ≤ ans l x y ↔ key y ≤ key x := by
  have h2 := h.neg l x y
  omega
theorem ansI_pos (way : Int) (x y : Int × Int) : (0 < ansI way x y ↔ keyI way y < keyI way x) ∧ (ansI way x y < 0 ↔ keyI way x < keyI way y) := by
  unfold ansI keyI
  by_cases h1 : way = 1
  · simp only [if_pos h1]; omega
  · by_cases h2 : way = 2
    · simp only [if_neg h1, if_pos h2]; omega
    · by_cases h3 : way = 3
      · have n5 : ¬ way = 5 := by omega
        simp only [if_neg h1, if_neg h2, if_pos h3, if_neg n5]
        obtain ⟨m, hm, hm1⟩ : ∃ m : Int, (1 + (if x.2 < 0 then -x.2 else x.2) % 9) = m ∧ 0 < m := ⟨_, rfl, by
          have := Int.emod_nonneg (if x.2 < 0 then -x.2 else x.2) (show (9 : Int) ≠ 0 by decide)
          omega⟩
        rw [hm]
        unfold b01
        by_cases a : 0 < x.1 - y.1
        · have b : ¬ x.1 - y.1 < 0 := by omega
          simp only [decide_eq_true a, decide_eq_false b, if_true, Bool.false_eq_true, if_false]
          omega
        · by_cases b : x.1 - y.1 < 0
          · simp only [decide_eq_false a, decide_eq_true b, if_true, Bool.false_eq_true, if_false]
            omega
          · simp only [decide_eq_false a, decide_eq_false b, Bool.false_eq_true, if_false]
            omega
      · by_cases h4 : way = 4
        · have n5 : ¬ way = 5 := by omega
          simp only [if_neg h1, if_neg h2, if_neg h3, if_pos h4, if_neg n5]; omega
        · by_cases h5 : way = 5
          · simp only [if_neg h1, if_neg h2, if_neg h3, if_neg h4, if_pos h5]; omega
          · simp only [if_neg h1, if_neg h2, if_neg h3, if_neg h4, if_neg h5]; omega
theorem keyA_of {α : Type} (way : Int) (c : α → Int × Int) : KeyA (fun _ x y => ansI way (c x) (c y)) (fun x => keyI way (c x)) := ⟨fun _ x y => (ansI_pos way (c x) (c y)).1, fun _ x y => (ansI_pos way (c x) (c y)).2⟩
/-! ### the stable order, element by element -/
section
variable {α : Type}
def plc (key : α → Int) (made : List α) (e : α) : Nat → Nat
  | 0 => 0
  | n + 1 => match made[n]? with
    | some z => if key e < key z then plc key made e n else n + 1
    | none => n + 1
def ins1 (key : α → Int) (made : List α) (e : α) : List α := made.take (plc key made e made.length) ++ [e] ++ made.drop (plc key made e made.length)
def isort (key : α → Int) (xs : List α) : List α := xs.foldl (ins1 key) []
theorem plc_le (key : α → Int) (made : List α) (e : α) : ∀ n, plc key made e n ≤ n
  | 0 => Nat.le_refl 0
  | n + 1 => by
    have ih := plc_le key made e n
    unfold plc
    split
    · split
      · omega
      · omega
    · omega
theorem ins1_len (key : α → Int) (made : List α) (e : α) : (ins1 key made e).length = made.length + 1 := by
  have h := plc_le key made e made.length
  unfold ins1
  simp only [List.length_append, List.length_take, List.length_drop, List.length_singleton]
  omega
theorem isort_snoc (key : α → Int) (xs : List α) (e : α) : isort key (xs ++ [e]) = ins1 key (isort key xs) e := by
  unfold isort
  rw [List.foldl_append]
  rfl
theorem isort_len (key : α → Int) (xs : List α) : (isort key xs).length = xs.length := by
  have : ∀ (ys : List α) (acc : List α), (ys.foldl (ins1 key) acc).length = acc.length + ys.length := by
    intro ys
    induction ys with
    | nil => intro acc; simp
    | cons y ys ih => intro acc; rw [List.foldl_cons, ih, ins1_len, List.length_cons]; omega
  unfold isort
  rw [this]
  simp
theorem ins1_mem {key : α → Int} {made : List α} {e z : α} (h : z ∈ ins1 key made e) : z ∈ made ∨ z = e := by
  unfold ins1 at h
  rcases List.mem_append.mp h with h | h
  · rcases List.mem_append.mp h with h | h
    · exact .inl (List.mem_of_mem_take h)
    · exact .inr (List.mem_singleton.mp h)
  · exact .inl (List.mem_of_mem_drop h)
theorem isort_mem {key : α → Int} {xs : List α} {z : α} (h : z ∈ isort key xs) : z ∈ xs := by
  have : ∀ (ys : List α) (acc : List α), z ∈ ys.foldl (ins1 key) acc → z ∈ acc ∨ z ∈ ys := by
    intro ys
    induction ys with
    | nil => intro acc q; exact .inl q
    | cons y ys ih =>
      intro acc q
      rw [List.foldl_cons] at q
      rcases ih _ q with q | q
      · rcases ins1_mem q with q | q
        · exact .inl q
        · exact .inr (by rw [q]; exact List.mem_cons_self)
      · exact .inr (List.mem_cons_of_mem _ q)
  rcases this xs [] h with q | q
  · cases q
  · exact q
end
end Mir
namespace Mir
section
variable {α : Type}
theorem plc_zero (key : α → Int) (made : List α) (e : α) : plc key made e 0 = 0 := by unfold plc; rfl
theorem plc_lt {key : α → Int} {made : List α} {e z : α} {n : Nat} (h : made[n]? = some z) (hz : key e < key z) : plc key made e (n + 1) = plc key made e n := by
  rw [plc]
  rw [h]
  exact if_pos hz
theorem plc_ge {key : α → Int} {made : List α} {e z : α} {n : Nat} (h : made[n]? = some z) (hz : ¬ key e < key z) : plc key made e (n + 1) = n + 1 := by
  rw [plc]
  rw [h]
  exact if_neg hz
end
end Mir

namespace Ord
open PySem PySem.Spec PyProof.Rows L2 LamX
/-! ### elements: pairs of whole numbers -/
def pd (e : Int × Int) : PyData := .tuple [.int e.1, .int e.2]
/-- x is a tuple of the two numbers e -/
def Pr (H : Hp) (x : V) (e : Int × Int) : Prop := ∃ p, x = .ref p ∧ H p = some (.tup [.int e.1, .int e.2])
/-- what stands at an element -/
def cnt (H : Hp) (x : V) : Int × Int := match x with
  | .ref p => (match H p with
    | some (.tup [.int a, .int b]) => (a, b)
    | _ => (0, 0))
  | _ => (0, 0)
theorem Pr.tk {H H' : Hp} {x : V} {e : Int × Int} (h : Pr H x e) (k : TK H H') : Pr H' x e := by
  obtain ⟨p, e1, e2⟩ := h
  exact ⟨p, e1, k _ _ e2⟩
theorem Pr.cnt {H : Hp} {x : V} {e : Int × Int} (h : Pr H x e) : Ord.cnt H x = e := by
  obtain ⟨p, rfl, e2⟩ := h
  unfold Ord.cnt
  simp only [e2]
theorem Pr.inj {H : Hp} {x : V} {e e' : Int × Int} (h : Pr H x e) (h' : Pr H x e') : e = e' := by rw [← h.cnt, h'.cnt]
/-- numbers that may be multiplied -/
def Sm (i : Int) : Prop := i.natAbs < 2 ^ 200
theorem Sm.of {i : Int} (h1 : -(2 ^ 199) ≤ i) (h2 : i ≤ 2 ^ 199) : Sm i := by
  unfold Sm
  have e : (2 : Int) ^ 199 = ((2 ^ 199 : Nat) : Int) := by norm_cast
  rw [e] at h1 h2
  have e2 : (2 : Nat) ^ 200 = 2 ^ 199 + 2 ^ 199 := by decide
  have e3 : 0 < (2 : Nat) ^ 199 := by decide
  omega
def Sn (i : Int) : Prop := i.natAbs < 2 ^ 190
theorem Sn.sub {i j : Int} (h1 : Sn i) (h2 : Sn j) : Sm (i - j) := by
  unfold Sn at h1 h2
  unfold Sm
  have e : (2 : Nat) ^ 190 + 2 ^ 190 ≤ 2 ^ 200 := by decide
  omega
theorem Sn.of {i : Int} (h1 : -1000000000000000000000000000000000000000 ≤ i) (h2 : i ≤ 1000000000000000000000000000000000000000) : Sn i := by
  unfold Sn
  have e : 1000000000000000000000000000000000000000 < (2 : Nat) ^ 190 := by decide
  omega
/-- an element of contents c x -/
def El (c : V → Int × Int) (x : V) (H : Hp) : Prop := Pr H x (c x) ∧ Sn (c x).1 ∧ Sn (c x).2
theorem El.tk {c : V → Int × Int} {x : V} {H H' : Hp} (k : TK H H') (h : El c x H) : El c x H' := ⟨h.1.tk k, h.2⟩
def Els (c : V → Int × Int) (xs : List V) (H : Hp) : Prop := ∀ x ∈ xs, El c x H
theorem Els.tk {c : V → Int × Int} {xs : List V} {H H' : Hp} (h : Els c xs H) (k : TK H H') : Els c xs H' := fun x hx => (h x hx).tk k
theorem El.now {c : V → Int × Int} {x : V} {H : Hp} (h : El c x H) : El (cnt H) x H := by
  obtain ⟨a, b1, b2⟩ := h
  have e := a.cnt
  exact ⟨by rw [e]; exact a, by rw [e]; exact b1, by rw [e]; exact b2⟩
theorem El.eqc {c : V → Int × Int} {x : V} {H : Hp} (h : El c x H) : cnt H x = c x := h.1.cnt
theorem Els.now {c : V → Int × Int} {xs : List V} {H : Hp} (h : Els c xs H) : Els (cnt H) xs H := fun x hx => (h x hx).now
/-! ### as data -/
theorem dp_el {K : PySem.W.Frag} {H : Hp} {x : V} {e : Int × Int} (h : Pr H x e) : Dp K H x (pd e) := by
  obtain ⟨p, rfl, e2⟩ := h
  exact .tup (SqT.of e2) (.cons (.int _) (.cons (.int _) .nil))
theorem dp_els {K : PySem.W.Frag} {H : Hp} {c : V → Int × Int} : ∀ {xs : List V}, Els c xs H → DpAll K H xs (xs.map fun x => pd (c x))
  | [], _ => .nil
  | x :: xs, h => .cons (dp_el (h x List.mem_cons_self).1) (dp_els fun y hy => h y (List.mem_cons_of_mem _ hy))
theorem dp_row {K : PySem.W.Frag} {H : Hp} {c : V → Int × Int} {a : Addr} {xs : List V} (s : SqL K H a xs) (h : Els c xs H) : Dp K H (.ref a) (.list (xs.map fun x => pd (c x))) := .lst s (dp_els h)
theorem dp_ints {K : PySem.W.Frag} {H : Hp} : ∀ (ns : List Int), DpAll K H (ns.map V.int) (ns.map PyData.int)
  | [] => .nil
  | n :: ns => .cons (.int n) (dp_ints ns)
theorem canLay_pd (e : Int × Int) : (pd e).canLay0 = true := by simp [pd, PyData.canLay0, PyData.canLayAll0]
theorem depth_pd (e : Int × Int) : (pd e).depth ≤ 4 := by simp [pd, PyData.depth, PyData.depthAll]
theorem canLayAll_pd {α : Type} (g : α → Int × Int) : ∀ xs : List α, PyData.canLayAll0 (xs.map fun x => pd (g x)) = true
  | [] => rfl
  | x :: xs => by
    rw [List.map_cons, PyData.canLayAll0, canLay_pd, canLayAll_pd g xs]
    rfl
theorem depthAll_pd {α : Type} (g : α → Int × Int) : ∀ xs : List α, PyData.depthAll (xs.map fun x => pd (g x)) ≤ 4
  | [] => by simp [PyData.depthAll]
  | x :: xs => by
    have h1 := depth_pd (g x)
    have h2 := depthAll_pd g xs
    rw [List.map_cons, PyData.depthAll]
    omega
theorem shaped_of {d : PyData} (h1 : d.canLay0 = true) (h2 : d.depth ≤ 64) : SeqAt.shaped d = true := by
  unfold SeqAt.shaped
  rw [h1, decide_eq_true h2]
  rfl
theorem shaped_pd (e : Int × Int) : SeqAt.shaped (pd e) = true := shaped_of (canLay_pd e) (Nat.le_trans (depth_pd e) (by decide))
theorem shaped_row {α : Type} (g : α → Int × Int) (xs : List α) : SeqAt.shaped (.list (xs.map fun x => pd (g x))) = true := by
  have h := depthAll_pd g xs
  refine shaped_of (by rw [PyData.canLay0]; exact canLayAll_pd g xs) ?_
  rw [PyData.depth]
  omega
theorem shaped_nil : SeqAt.shaped (.list []) = true := shaped_row (fun x : Int × Int => x) []
theorem shaped_ints (ns : List Int) : SeqAt.shaped (.list (ns.map PyData.int)) = true := by
  have a : ∀ ns : List Int, PyData.canLayAll0 (ns.map PyData.int) = true ∧ PyData.depthAll (ns.map PyData.int) ≤ 1 := by
    intro ns
    induction ns with
    | nil => exact ⟨rfl, by simp [PyData.depthAll]⟩
    | cons n ns ih =>
      rw [List.map_cons, PyData.canLayAll0, PyData.depthAll, ih.1]
      refine ⟨rfl, ?_⟩
      have : (PyData.int n).depth ≤ 1 := by simp [PyData.depth]
      omega
  refine shaped_of (by rw [PyData.canLay0]; exact (a ns).1) ?_
  rw [PyData.depth]
  have := (a ns).2
  omega
theorem eqv_pd (a b : Int × Int) : PyData.eqv (pd a) (pd b) = decide (a = b) := by
  obtain ⟨a1, a2⟩ := a
  obtain ⟨b1, b2⟩ := b
  unfold pd
  rw [PyData.eqv, PyData.eqvAll, PyData.eqvAll, PyData.eqvAll, PyData.eqv, PyData.eqv]
  by_cases h1 : a1 = b1
  · by_cases h2 : a2 = b2
    · subst h1 h2
      simp
    · simp [h1, h2]
  · simp [h1]
theorem eqvAll_pd {α β : Type} (g : α → Int × Int) (g' : β → Int × Int) : ∀ (xs : List α) (ys : List β), PyData.eqvAll (xs.map fun x => pd (g x)) (ys.map fun x => pd (g' x)) = decide (xs.map g = ys.map g')
  | [], [] => by rw [List.map_nil, List.map_nil, List.map_nil, PyData.eqvAll]; simp
  | [], y :: ys => by rw [List.map_nil, List.map_cons, PyData.eqvAll]; simp
  | x :: xs, [] => by rw [List.map_cons, List.map_nil, PyData.eqvAll]; simp
  | x :: xs, y :: ys => by
    rw [List.map_cons, List.map_cons, PyData.eqvAll, eqv_pd, eqvAll_pd g g' xs ys]
    by_cases h1 : g x = g' y
    · by_cases h2 : xs.map g = ys.map g'
      · simp [h1, h2]
      · simp [h1, h2]
    · simp [h1]
theorem eqv_row {α β : Type} (g : α → Int × Int) (g' : β → Int × Int) (xs : List α) (ys : List β) : PyData.eqv (.list (xs.map fun x => pd (g x))) (.list (ys.map fun x => pd (g' x))) = decide (xs.map g = ys.map g') := by
  rw [PyData.eqv]
  exact eqvAll_pd g g' xs ys
theorem eqv_ints_nil (ns : List Int) : PyData.eqv (.list (ns.map PyData.int)) (.list []) = decide (ns = []) := by
  cases ns with
  | nil => rw [List.map_nil, PyData.eqv, PyData.eqvAll]; simp
  | cons n ns => rw [List.map_cons, PyData.eqv, PyData.eqvAll]; simp
theorem any_pd {α : Type} (g : α → Int × Int) (e : Int × Int) (xs : List α) : (xs.map fun x => pd (g x)).any (fun z => PyData.eqv z (pd e)) = decide (e ∈ xs.map g) := by
  induction xs with
  | nil => simp
  | cons x xs ih =>
    rw [List.map_cons, List.any_cons, ih, eqv_pd, List.map_cons]
    by_cases h1 : g x = e
    · simp [h1]
    · by_cases h2 : e ∈ xs.map g
      · simp [h2]
      · have h3 : ¬ e = g x := fun z => h1 z.symm
        simp [h1, h2, h3]
/-! ### great numbers -/
def CMulB (i j : Int) : Prop := Sm i ∧ Sm j
section
variable {X : Cx}
theorem op_mulB : OpR X (binaryOp .Mult) (rE CMulB fun i j => i * j) := by
  intro pins s σ H x y v u Q I rx ry q
  obtain ⟨i, j, z, e1, e2, ⟨h1, h2⟩, rfl, q⟩ := q
  exact op_mulW pins s σ H x y v u Q I rx ry ⟨i, j, e1, e2, wide_mul (a := 200) (b := 200) h1 h2 (by decide) (by decide) (by decide), q⟩
end
end Ord
namespace Ord
open PySem PySem.Spec PyProof.Rows L2 LamX
/-! ### the same rules, the written part named (for comprehensions) -/
section
variable {X : Cx} {K : PySem.W.Frag} {e : Expr} {te : TE} {p pos : Pos} {f : Str}
theorem ix_listK (hK : X.K = K := by rfl) : IxR X (rIxL K) := hK ▸ ix_list
theorem ix_tupK (hK : X.K = K := by rfl) : IxR X (rIxT K) := hK ▸ ix_tup
theorem sl_listK (hK : X.K = K := by rfl) : SlR X (rSlL K) := hK ▸ sl_list
theorem op_eqDK (hu : X.A.units + 64 < cLine) (hK : X.K = K := by rfl) : OpR X (compareOp .Eq) (rEqD K) := hK ▸ op_eqD hu
theorem op_neDK (hu : X.A.units + 64 < cLine) (hK : X.K = K := by rfl) : OpR X (compareOp .NotEq) (rNeD K) := hK ▸ op_neD hu
theorem op_inDK (hu : X.A.units + 65 < cLine) (hK : X.K = K := by rfl) : OpR X (compareOp .In) (rInD K) := hK ▸ op_inD hu
theorem op_notInDK (hu : X.A.units + 65 < cLine) (hK : X.K = K := by rfl) : OpR X (compareOp .NotIn) (rNotInD K) := hK ▸ op_notInD hu
theorem pe_lenK (mL : X.mg "len" = none) (h : PE X e te) (hK : X.K = K := by rfl) (hg : Gl X "len" := by rfl) (he : starEach [e] X.env = (false, eval e X.env) :: starEach [] X.env := by rfl) (hpl : (backTo pos (starEach [] X.env)).any (·.1) = false := by rfl) :
    PE X (.Call (.Name "len" p) [e] [] pos) (tCB (rLen1 K) (tCons te tNil)) := hK ▸ pe_len mL h hg he hpl
end
end Ord
namespace Ord
open PySem PySem.Spec PyProof.Rows L2 LamX
section
variable {X : Cx} {K : PySem.W.Frag} {e : Expr} {te : TE} {p pos : Pos} {f : Str}
theorem pg_tupK {es : List Expr} {k : Nat} {t : TGs} {n : Nat} (hc : X.calm = true) (h : PGs X es t) (hK : X.K = K := by rfl)
    (hn : (assignEach es X.env).length = n := by rfl) (hst : (assignEach es X.env).findIdx? (·.1) = none := by rfl) : PG X (.Tuple es k pos) (gTup K n t) := hK ▸ pg_tup hc h hn hst
theorem cr_allK (hc : X.calm = true) (hK : X.K = K := by rfl) : CallR X (.builtin "all") (rAll K) := hK ▸ cr_all hc
theorem cr_anyK (hc : X.calm = true) (hK : X.K = K := by rfl) : CallR X (.builtin "any") (rAny K) := hK ▸ cr_any hc
theorem pe_fldK (he : PE X e te) (hb : attributeBase e f X.env (eval e X.env) = eval e X.env) (hK : X.K = K := by rfl) : PE X (.Attribute e f pos) (tFld K te f) := hK ▸ pe_fld he hb
end
end Ord

namespace Ord
open PySem PySem.Spec PyProof.Rows L2 LamX
section
variable {P : Program} {w : World} {K : PySem.W.Frag} {mg : Str → Option Value} {base : Heap}
/-! ### _law_cell -/
def N__law_cell : List Str := ["_law_script", "_law_k"]
theorem sc__law_cell : FnScope ["_law_script", "_law_k"] ["_law_script", "_law_k"] (defScope st__law_cell) := ⟨rfl, rfl, rfl, by decide +kernel, rfl, by decide +kernel, by decide +kernel⟩
def spCellK (K : PySem.W.Frag) : Sp := fun vs H Q _ => ∃ (a : Addr) (ns : List Int) (k : Nat), vs = [.ref a, .int (k : Int)] ∧ SqL K H a (ns.map V.int) ∧ ns.length ≤ 1000 ∧ ∀ H', Same H H' → Q (.int (Mir.cellI ns k)) H'
theorem ok_cell (d__law_cell : Df K mg "_law_cell" st__law_cell ["_law_script", "_law_k"]) (mLen : mg "len" = none) : FnOk P w K mg base CX0 1 d__law_cell.f d__law_cell.fd ["_law_script", "_law_k"] (spCellK K) := by
  refine d__law_cell.F.ok sc__law_cell (fun vs H Q E h => ?_) (fun cdv A outer s H vs Q E hr h => ?_)
  · obtain ⟨a, ns, k, rfl, _⟩ := h
    rfl
  · obtain ⟨a, ns, k, rfl, hS, hz, hQ⟩ := h
    refine ⟨_, (pss_cons (ps_if (pt_cmpR (op_eqD hr.units) (pv 0) (pe_lst pa_nil) (nomark _))
    (pss_one (ps_ret (pe_op op_mulE (pv 1) pe_int)))
    pss_nil)
  (pss_one (ps_ret (pe_op op_addE (pe_ix ix_list (pv 0) (pe_op op_modE (pv 1) (pe_len mLen (pv 0))) (fun _ _ => rfl)) (pe_op op_mulE (pe_op op_fdivE (pv 1) (pe_len mLen (pv 0))) pe_int))))), ?_⟩
    refine ⟨_, rfl, Nat.zero_le _, fun p np => ?_⟩
    have s1 : Same H (upd H p (.lst [])) := fun b o e => by rw [upd_ne (ne_of_none e np)]; exact e
    have hS1 := s1.seq hS
    have el : ((ns.map V.int).length) = ns.length := List.length_map _
    refine ⟨.list (ns.map PyData.int), .list [], .lst hS1 (dp_ints ns), .lst (SqL.of upd_same) .nil, shaped_ints ns, shaped_nil, _, rfl, ?_⟩
    rw [eqv_ints_nil]
    refine iteD (fun h0 => ?_) (fun h0 => ?_)
    · refine ⟨_, rfl, _, _, _, rfl, rfl, .inr ⟨by decide, by decide⟩, rfl, ?_⟩
      have e : Mir.cellI ns k = (k : Int) * 7919 := if_pos h0
      rw [e] at hQ
      exact hQ _ s1
    · have hp : 0 < ns.length := List.length_pos_iff.mpr h0
      have hm : k % ns.length < ns.length := Nat.mod_lt _ hp
      refine ⟨_, rfl, _, rfl, _, rfl, a, _, rfl, .inl hS1, _, _, ((k % ns.length : Nat) : Int), rfl, rfl, by omega, by show ((k % ns.length : Nat) : Int) = (k : Int) % ((ns.map V.int).length : Nat); rw [el]; omega, ?_⟩
      refine ⟨a, _, _, .int (ns.getD (k % ns.length) 0), rfl, rfl, hS1, atI_nat (by rw [List.getElem?_map, List.getElem?_eq_getElem hm, List.getD_eq_getElem?_getD, List.getElem?_eq_getElem hm]; rfl), ?_⟩
      refine ⟨_, rfl, _, rfl, a, _, rfl, .inl hS1, _, _, ((k / ns.length : Nat) : Int), rfl, rfl, ⟨by omega, by omega⟩, by show ((k / ns.length : Nat) : Int) = (k : Int) / ((ns.map V.int).length : Nat); rw [el]; omega, ?_⟩
      refine ⟨_, _, _, rfl, rfl, .inr ⟨by decide, by decide⟩, rfl, _, _, _, rfl, rfl, rfl, ?_⟩
      have e : Mir.cellI ns k = ns.getD (k % ns.length) 0 + ((k / ns.length : Nat) : Int) * 104729 := if_neg h0
      rw [e] at hQ
      exact hQ _ s1
/-! ### _law_drawn -/
def N__law_drawn : List Str := ["_law_cell_here", "_law_k", "_law_more"]
theorem sc__law_drawn : FnScope ["_law_cell_here", "_law_k", "_law_more"] ["_law_cell_here", "_law_k"] (defScope st__law_drawn) := ⟨rfl, rfl, rfl, by decide +kernel, rfl, by decide +kernel, by decide +kernel⟩
def spDrawn : Sp := fun vs H Q _ => ∃ (c : Int) (k : Nat), vs = [.int c, .int (k : Int)] ∧ Q (.int (Mir.drawn c k)) H
theorem sm_more (c : Int) (k : Nat) : Sm (Mir.moreI c k) := by
  have h := Mir.moreI_nn c k
  refine Sm.of ?_ ?_
  · have : (0 : Int) ≤ 2 ^ 199 := by decide
    omega
  · have : (340282366920938463463374607431768211507 : Int) ≤ 2 ^ 199 := by decide
    omega
theorem ok_drawn (d__law_drawn : Df K mg "_law_drawn" st__law_drawn ["_law_cell_here", "_law_k"]) : FnOk P w K mg base CX0 1 d__law_drawn.f d__law_drawn.fd ["_law_cell_here", "_law_k"] spDrawn := by
  refine d__law_drawn.F.ok sc__law_drawn (fun vs H Q E h => ?_) (fun cdv A outer s H vs Q E hr h => ?_)
  · obtain ⟨c, k, rfl, _⟩ := h
    rfl
  · obtain ⟨c, k, rfl, hQ⟩ := h
    have nd := sc__law_drawn.nd
    refine ⟨_, (pss_cons (ps_set (i := 2) nd rfl (Or.inl rfl) (pe_op op_modE (pe_op op_addE (pe_op op_mulE (pv 0) pe_int) (pe_op op_mulE (pe_op op_addE (pv 1) pe_int) pe_int)) pe_int))
  (pss_one (ps_ret (pe_op op_modE (pe_op op_mulB (pv 2) (pv 2)) pe_int)))), ?_⟩
    refine ⟨_, rfl, _, _, _, rfl, rfl, .inr ⟨by decide, by decide⟩, rfl, _, rfl, _, _, _, rfl, rfl, rfl, _, _, _, rfl, rfl, .inr ⟨by decide, by decide⟩, rfl, _, _, _, rfl, rfl, rfl, _, _, Mir.moreI c k, rfl, rfl, (by show (0 : Int) < 340282366920938463463374607431768211507; decide), rfl, ?_⟩
    refine ⟨_, rfl, _, rfl, _, _, _, rfl, rfl, ⟨sm_more c k, sm_more c k⟩, rfl, _, _, Mir.drawn c k, rfl, rfl, (by show (0 : Int) < 340282366920938463463374607431768211297; decide), rfl, hQ⟩
end
end Ord

namespace Ord
open PySem PySem.Spec PyProof.Rows L2 LamX
theorem eqI {i j : Int} : V.int i = V.int j ↔ i = j := ⟨fun h => V.int.inj h, fun h => by rw [h]⟩
theorem iteI {i j : Int} {A B : Prop} (h1 : i = j → A) (h2 : ¬ i = j → B) : if decide (V.int i = V.int j) = true then A else B := iteD (fun e => h1 (eqI.mp e)) fun e => h2 fun z => e (eqI.mpr z)
section
variable {P : Program} {w : World} {K : PySem.W.Frag} {mg : Str → Option Value} {base : Heap}
/-! ### _law_log -/
def N__law_log : List Str := ["_law_many", "_law_found"]
theorem sc__law_log : FnScope ["_law_many", "_law_found"] ["_law_many"] (defScope st__law_log) := ⟨rfl, rfl, rfl, by decide +kernel, rfl, by decide +kernel, by decide +kernel⟩
def spLog : Sp := fun vs H Q _ => ∃ (n : Nat), vs = [.int (n : Int)] ∧ n ≤ 1000000 ∧ Q (.int ((Mir.clog n : Nat) : Int)) H
theorem ok_log (d__law_log : Df K mg "_law_log" st__law_log ["_law_many"]) : FnOk P w K mg base CX0 1 d__law_log.f d__law_log.fd ["_law_many"] spLog := by
  refine d__law_log.F.ok sc__law_log (fun vs H Q E h => ?_) (fun cdv A outer s H vs Q E hr h => ?_)
  · obtain ⟨n, rfl, _⟩ := h
    rfl
  · obtain ⟨n, rfl, hn, hQ⟩ := h
    have nd := sc__law_log.nd
    refine ⟨_, (pss_cons (ps_set (i := 1) nd rfl (Or.inl rfl) pe_int)
  (pss_cons (ps_while PassesOwn.never (pt_cmpR op_lt (pe_op op_shl pe_int (pv 1)) (pv 0) (nomark _))
    (pss_one (ps_set (i := 1) nd rfl (Or.inl rfl) (pe_op op_addE (pv 1) pe_int))))
  (pss_one (ps_ret (pv 1))))), ?_⟩
    have hc := Mir.clog_le_self n
    refine ⟨fun m σ H' => ∃ i : Nat, σ = [some (.int (n : Int)), some (.int (i : Int))] ∧ H' = H ∧ i ≤ Mir.clog n ∧ m = Mir.clog n - i, ⟨_, 0, rfl, rfl, Nat.zero_le _, rfl⟩, ?_⟩
    rintro m σ H' ⟨i, rfl, rfl, hi, rfl⟩
    refine ⟨_, rfl, _, _, rfl, rfl, ⟨by omega, by omega, by decide⟩, _, rfl, _, _, rfl, rfl, _, rfl, ?_⟩
    have e : ((1 : Int) * 2 ^ (i : Int).toNat < (n : Int)) ↔ i < Mir.clog n := by
      rw [← Mir.clog_lt]
      rw [Int.toNat_natCast, Int.one_mul]
      norm_cast
    refine iteD (fun h => ?_) (fun h => ?_)
    · have hlt := e.mp h
      refine ⟨_, fun _ _ h => h, ?_⟩
      exact ⟨_, rfl, _, _, ((i + 1 : Nat) : Int), rfl, rfl, rfl, _, by omega, i + 1, rfl, rfl, by omega, rfl⟩
    · have hge : i = Mir.clog n := by
        have := fun z => h (e.mpr z)
        omega
      rw [← hge] at hQ
      exact ⟨_, rfl, hQ⟩
end
end Ord

namespace Ord
open PySem PySem.Spec PyProof.Rows L2 LamX
theorem getE_map {α β : Type} {g : α → β} {xs : List α} {i : Nat} {x : α} (h : xs[i]? = some x) : (xs.map g)[i]? = some (g x) := by rw [List.getElem?_map, h]; rfl
section
variable {P : Program} {w : World} {K : PySem.W.Frag} {mg : Str → Option Value} {base : Heap}
/-! ### _law_row -/
def N__law_row : List Str := ["_law_script", "_law_start", "_law_many", "_law_spread", "_law_k"]
theorem sc__law_row : FnScope ["_law_script", "_law_start", "_law_many", "_law_spread", "_law_k"] ["_law_script", "_law_start", "_law_many", "_law_spread"] (defScope st__law_row) := ⟨rfl, rfl, rfl, by decide +kernel, rfl, by decide +kernel, by decide +kernel⟩
def spRowK (K : PySem.W.Frag) : Sp := fun vs H Q _ => ∃ (a : Addr) (ns : List Int) (st n : Nat) (sp : Int), vs = [.ref a, .int (st : Int), .int (n : Int), .int sp] ∧ SqL K H a (ns.map V.int) ∧ ns.length ≤ 1000 ∧ n ≤ 100 ∧ 0 < sp ∧ sp ≤ 1000000 ∧
  ∀ (H' : Hp) (p : Addr) (xs : List V) (c : V → Int × Int), Same H H' → H p = none → H' p = some (.lst xs) → xs.length = n → Els c xs H' → (∀ (i : Nat) (x : V), xs[i]? = some x → (c x).2 = (i : Int) ∧ 0 ≤ (c x).1 ∧ (c x).1 < sp) → Q (.ref p) H'
theorem ok_row (d__law_row : Df K mg "_law_row" st__law_row ["_law_script", "_law_start", "_law_many", "_law_spread"]) (d__law_cell : Df K mg "_law_cell" st__law_cell ["_law_script", "_law_k"]) (d__law_drawn : Df K mg "_law_drawn" st__law_drawn ["_law_cell_here", "_law_k"]) (mLen : mg "len" = none) (mRange : mg "range" = none) : FnOk P w K mg base CX0 2 d__law_row.f d__law_row.fd ["_law_script", "_law_start", "_law_many", "_law_spread"] (spRowK K) := by
  have G__law_cell : FnOk P w K mg base CX0 1 d__law_cell.f d__law_cell.fd ["_law_script", "_law_k"] (spCellK K) := ok_cell d__law_cell mLen
  have G__law_drawn : FnOk P w K mg base CX0 1 d__law_drawn.f d__law_drawn.fd ["_law_cell_here", "_law_k"] spDrawn := ok_drawn d__law_drawn
  refine d__law_row.F.ok sc__law_row (fun vs H Q E h => ?_) (fun cdv A outer s H vs Q E hr h => ?_)
  · obtain ⟨a, ns, st, n, sp, rfl, _⟩ := h
    rfl
  · obtain ⟨a, ns, st, n, sp, rfl, hS, hz, hn, sp0, sp1, hQ⟩ := h
    have nd := sc__law_row.nd
    refine ⟨_, (pss_one (ps_ret (pe_lc (own := [("_law_k", 4)]) (g := gName 4) rfl nd (pi_range1 (by rfl) mRange (pa_cons (pv 2) pa_nil)) (blkOk_by (own := [("_law_k", 4)]) (N := N__law_row) (sc := defScope st__law_row) (by decide +kernel)) (fun _ _ _ _ _ => pg_name (i := 4) nd rfl (Or.inl rfl)) (fun _ _ _ _ _ => pts_nil) (fun _ _ _ _ _ => (pe_tup (pa_cons (pe_op op_modE (pe_cd (d := d__law_drawn) G__law_drawn (hr.mono (by omega)) (pa_cons (pe_cd (d := d__law_cell) G__law_cell (hr.mono (by omega)) (pa_cons (pv 0) (pa_cons (pe_op op_addE (pv 1) (pv 4)) pa_nil))) (pa_cons (pv 4) pa_nil))) (pv 3)) (pa_cons (pv 4) pa_nil))))))), ?_⟩
    refine ⟨_, rfl, (n : Int), rfl, by omega, by omega, fun D hD => ?_⟩
    refine lc_range (lo := 0) (n := (n : Int).toNat) (fun i H1 => ∃ xs, Same H H1 ∧ H1 D = some (.lst xs) ∧ xs.length = i ∧ ∀ (j : Nat) (x : V), xs[j]? = some x → ∃ v, Pr H1 x (v, (j : Int)) ∧ 0 ≤ v ∧ v < sp) ⟨[], fun b o e => by rw [upd_ne (ne_of_none e hD)]; exact e, upd_same, rfl, fun j x e => by simp at e⟩ ?_ ?_
    · rintro i H1 hi ⟨xs, s1, h1, hl, hx⟩
      rw [show ((0 : Int) + (i : Nat)) = ((i : Nat) : Int) from Int.zero_add _]
      refine ⟨rfl, ?_⟩
      refine ⟨_, rfl, _, rfl, _, rfl, _, _, ((st + i : Nat) : Int), rfl, rfl, by show ((st + i : Nat) : Int) = (st : Int) + (i : Int); omega, a, ns, st + i, rfl, s1.seq hS, hz, fun H2 s2 => ?_⟩
      refine ⟨_, rfl, _, i, rfl, ?_⟩
      have hd := Mir.drawn_nn (Mir.cellI ns (st + i)) i
      have hm0 := Int.emod_nonneg (Mir.drawn (Mir.cellI ns (st + i)) i) (show sp ≠ 0 by omega)
      have hm1 := Int.emod_lt_of_pos (Mir.drawn (Mir.cellI ns (st + i)) i) sp0
      refine ⟨_, rfl, _, _, Mir.drawn (Mir.cellI ns (st + i)) i % sp, rfl, rfl, sp0, rfl, _, rfl, by show 2 ≤ sizeLine; decide, fun t ht => ?_⟩
      have h2D : H2 D = some (.lst xs) := s2 _ _ h1
      have hDt : D ≠ t := ne_of_none h2D ht
      refine ⟨xs, (upd_ne hDt).trans h2D, small1000 (by omega), xs ++ [.ref t], fun b o e => ?_, upd_same, by rw [List.length_append, hl]; rfl, fun j x e => ?_⟩
      · rw [upd_ne (ne_of_none e hD), upd_ne (ne_of_none (s2 _ _ (s1 _ _ e)) ht)]
        exact s2 _ _ (s1 _ _ e)
      · have kT : TK H2 (upd (upd H2 t (.tup [.int (Mir.drawn (Mir.cellI ns (st + i)) i % sp), .int (i : Int)])) D (.lst (xs ++ [.ref t]))) := (TK.new ht).trans (TK.wr ((upd_ne hDt).trans h2D) nf_lst)
        by_cases hj : j < xs.length
        · rw [List.getElem?_append_left hj] at e
          obtain ⟨v, hp, hv⟩ := hx j x e
          exact ⟨v, (hp.tk (Same.tk s2)).tk kT, hv⟩
        · rw [List.getElem?_append_right (by omega)] at e
          have ej : j = i := by
            have := (List.getElem?_eq_some_iff.mp e).1
            simp only [List.length_singleton] at this
            omega
          subst ej
          rw [hl, Nat.sub_self] at e
          cases e
          exact ⟨_, ⟨t, rfl, (upd_ne hDt.symm).trans upd_same⟩, hm0, hm1⟩
    · rintro H1 ⟨xs, s1, h1, hl, hx⟩
      have key : ∀ (i : Nat) (x : V), xs[i]? = some x → Pr H1 x (cnt H1 x) ∧ (cnt H1 x).2 = (i : Int) ∧ 0 ≤ (cnt H1 x).1 ∧ (cnt H1 x).1 < sp := fun i x e => by
        obtain ⟨v, hp, hv⟩ := hx i x e
        rw [hp.cnt]
        exact ⟨hp, rfl, hv⟩
      refine hQ H1 D xs (cnt H1) s1 hD h1 (by omega) (fun x hx' => ?_) fun i x e => (key i x e).2
      obtain ⟨i, e⟩ := List.mem_iff_getElem?.mp hx'
      have k := key i x e
      have hi := (List.getElem?_eq_some_iff.mp e).1
      exact ⟨k.1, Sn.of (by omega) (by omega), Sn.of (by omega) (by omega)⟩
/-! ### _law_size -/
def N__law_size : List Str := ["_law_script", "_law_most", "_law_more"]
theorem sc__law_size : FnScope ["_law_script", "_law_most", "_law_more"] ["_law_script", "_law_most"] (defScope st__law_size) := ⟨rfl, rfl, rfl, by decide +kernel, rfl, by decide +kernel, by decide +kernel⟩
def spSizeK (K : PySem.W.Frag) : Sp := fun vs H Q _ => ∃ (a : Addr) (ns : List Int) (most : Nat), vs = [.ref a, .int (most : Int)] ∧ SqL K H a (ns.map V.int) ∧ ns.length ≤ 1000 ∧ 5 ≤ most ∧ most ≤ 1000 ∧
  ∀ (H' : Hp) (n : Nat), Same H H' → n ≤ most → Q (.int (n : Int)) H'
theorem ok_size (d__law_size : Df K mg "_law_size" st__law_size ["_law_script", "_law_most"]) (d__law_cell : Df K mg "_law_cell" st__law_cell ["_law_script", "_law_k"]) (d__law_drawn : Df K mg "_law_drawn" st__law_drawn ["_law_cell_here", "_law_k"]) (mLen : mg "len" = none) (mMin : mg "min" = none) : FnOk P w K mg base CX0 2 d__law_size.f d__law_size.fd ["_law_script", "_law_most"] (spSizeK K) := by
  have G__law_cell : FnOk P w K mg base CX0 1 d__law_cell.f d__law_cell.fd ["_law_script", "_law_k"] (spCellK K) := ok_cell d__law_cell mLen
  have G__law_drawn : FnOk P w K mg base CX0 1 d__law_drawn.f d__law_drawn.fd ["_law_cell_here", "_law_k"] spDrawn := ok_drawn d__law_drawn
  refine d__law_size.F.ok sc__law_size (fun vs H Q E h => ?_) (fun cdv A outer s H vs Q E hr h => ?_)
  · obtain ⟨a, ns, most, rfl, _⟩ := h
    rfl
  · obtain ⟨a, ns, most, rfl, hS, hz, hm, hm1, hQ⟩ := h
    have nd := sc__law_size.nd
    refine ⟨_, (pss_cons (ps_set (i := 2) nd rfl (Or.inl rfl) (pe_cd (d := d__law_drawn) G__law_drawn (hr.mono (by omega)) (pa_cons (pe_cd (d := d__law_cell) G__law_cell (hr.mono (by omega)) (pa_cons (pv 0) (pa_cons pe_int pa_nil))) (pa_cons pe_int pa_nil))))
  (pss_one (ps_ret (pe_ix ix_list (pe_lst (pa_cons (pe_op op_modE (pe_op op_fdivE (pv 2) pe_int) (pe_op op_addE (pv 1) pe_int)) (pa_cons (pe_callB (call_min2 rfl) (by rfl) mMin (by decide +kernel) (pa_cons (pv 1) (pa_cons (pe_len mLen (pv 0)) pa_nil))) (pa_cons (pe_op op_modE (pe_op op_fdivE (pv 2) pe_int) pe_int) (pa_cons (pe_op op_subE (pv 1) (pe_op op_modE (pe_op op_fdivE (pv 2) pe_int) pe_int)) pa_nil))))) (pe_op op_modE (pv 2) pe_int) (fun _ _ => rfl))))), ?_⟩
    refine ⟨_, rfl, a, ns, 0, rfl, hS, hz, fun H1 s1 => ⟨_, 9000, rfl, ?_⟩⟩
    obtain ⟨m, em⟩ : ∃ m, m = Mir.drawn (Mir.cellI ns 0) 9000 := ⟨_, rfl⟩
    have hd := Mir.drawn_nn (Mir.cellI ns 0) 9000
    rw [← em] at hd ⊢
    have hQ' : ∀ (z : Int) (H' : Hp), 0 ≤ z → z ≤ most → Same H H' → Q (.int z) H' := fun z H' h0 h1 s => by
      have h := hQ H' z.toNat s (by omega)
      rw [Int.toNat_of_nonneg h0] at h
      exact h
    have hlen : ((ns.map V.int).length) = ns.length := List.length_map _
    refine ⟨_, rfl, _, _, _, rfl, rfl, ⟨by decide, by decide⟩, rfl, _, rfl, _, _, _, rfl, rfl, rfl, _, _, _, rfl, rfl, (by show (0 : Int) < (most : Int) + 1; omega), rfl, ?_⟩
    refine ⟨_, rfl, _, rfl, a, _, rfl, .inl (s1.seq hS), _, _, rfl, ?_⟩
    refine ⟨_, rfl, _, _, _, rfl, rfl, ⟨by decide, by decide⟩, rfl, _, _, _, rfl, rfl, (by show (0 : Int) < 6; decide), rfl, ?_⟩
    refine ⟨_, rfl, _, rfl, _, _, _, rfl, rfl, ⟨by decide, by decide⟩, rfl, _, _, _, rfl, rfl, (by show (0 : Int) < 3; decide), rfl, _, _, _, rfl, rfl, rfl, ?_⟩
    refine ⟨by show 4 ≤ sizeLine; decide, fun p np => ?_⟩
    have s2 : ∀ o, Same H (upd H1 p o) := fun o b u e => by rw [upd_ne (ne_of_none (s1 _ _ e) np)]; exact s1 _ _ e
    obtain ⟨r, hr4, er⟩ : ∃ r : Nat, r < 4 ∧ m % 4 = (r : Int) := ⟨(m % 4).toNat, by omega, by omega⟩
    refine ⟨_, rfl, _, _, (r : Int), rfl, rfl, (by show (0 : Int) < 4; decide), er.symm, ?_⟩
    have hh : r = 0 ∨ r = 1 ∨ r = 2 ∨ r = 3 := by omega
    rcases hh with h | h | h | h <;> subst h
    · refine ⟨p, _, _, _, rfl, rfl, SqL.of upd_same, rfl, hQ' _ _ ?_ ?_ (s2 _)⟩
      · exact Int.emod_nonneg _ (show (most : Int) + 1 ≠ 0 by omega)
      · have := Int.emod_lt_of_pos (m / 8) (show (0 : Int) < (most : Int) + 1 by omega)
        show m / 8 % ((most : Int) + 1) ≤ most
        omega
    · refine ⟨p, _, _, _, rfl, rfl, SqL.of upd_same, rfl, hQ' _ _ ?_ ?_ (s2 _)⟩
      · show 0 ≤ if (((ns.map V.int).length : Nat) : Int) < (most : Int) then (((ns.map V.int).length : Nat) : Int) else (most : Int)
        split <;> omega
      · show (if (((ns.map V.int).length : Nat) : Int) < (most : Int) then (((ns.map V.int).length : Nat) : Int) else (most : Int)) ≤ most
        split <;> omega
    · refine ⟨p, _, _, _, rfl, rfl, SqL.of upd_same, rfl, hQ' _ _ ?_ ?_ (s2 _)⟩
      · show 0 ≤ m / 8 % 6
        omega
      · show m / 8 % 6 ≤ (most : Int)
        omega
    · refine ⟨p, _, _, _, rfl, rfl, SqL.of upd_same, rfl, hQ' _ _ ?_ ?_ (s2 _)⟩
      · show 0 ≤ (most : Int) - m / 8 % 3
        omega
      · show (most : Int) - m / 8 % 3 ≤ (most : Int)
        omega
end
end Ord

namespace Ord
open PySem PySem.Spec PyProof.Rows L2 LamX
/-! ### a written log of questions -/
def LogAt (H : Hp) (ps : List V) (l : Lg) : Prop := Paired (fun v z => ∃ p, v = V.ref p ∧ H p = some (.tup [z.1, z.2])) ps l
theorem LogAt.tk {H H' : Hp} {ps : List V} {l : Lg} (h : LogAt H ps l) (k : TK H H') : LogAt H' ps l := Paired.mapP h fun v z ⟨p, e1, e2⟩ => ⟨p, e1, k _ _ e2⟩
theorem LogAt.length {H : Hp} {ps : List V} {l : Lg} (h : LogAt H ps l) : ps.length = l.length := Paired.length h
theorem Paired.snoc {α β : Type} {F : α → β → Prop} {x : α} {y : β} (h : F x y) : ∀ {xs : List α} {ys : List β}, Paired F xs ys → Paired F (xs ++ [x]) (ys ++ [y])
  | _, _, .nil => .cons h .nil
  | _, _, .cons r t => .cons r (Paired.snoc h t)
theorem LogAt.snoc {H : Hp} {ps : List V} {l : Lg} {p : Addr} {x y : V} (h : LogAt H ps l) (e : H p = some (.tup [x, y])) : LogAt H (ps ++ [.ref p]) (l ++ [(x, y)]) := Paired.snoc ⟨p, rfl, e⟩ h
theorem CellV.stay {q c : Addr} {H H' : Hp} {v : V} (h : CellV H c v) (s : Stay q H H') : CellV H' c v := by
  obtain ⟨o, u, e, r⟩ := h
  exact ⟨o, u, s _ _ e (.inr True.intro), r⟩
theorem ClosAt.stay {q : Addr} {cl : List (Str × Addr)} {fr : List Str} {ws : List (Option V)} {H H' : Hp} (h : ClosAt cl fr ws H) (s : Stay q H H') : ClosAt cl fr ws H' :=
  ⟨h.len, fun b hb => by
    obtain ⟨o, v, e, r⟩ := h.all b hb
    exact ⟨o, v, s _ _ e (.inr True.intro), r⟩, h.inj, fun i y e => by
    obtain ⟨c, hc, hv⟩ := h.has i y e
    exact ⟨c, hc, fun v ev => (hv v ev).stay s⟩⟩
theorem ClosAt.out {cl : List (Str × Addr)} {fr : List Str} {ws : List (Option V)} {H : Hp} (h : ClosAt cl fr ws H) {b : Addr} {o : HO} (e : H b = some o) (n : ∀ ob, o ≠ Fz ob) : b ∉ cl.map (·.2) := fun hb => by
  obtain ⟨ob, v, e', _⟩ := h.all b hb
  rw [e] at e'
  exact n ob (Option.some.inj e')
theorem tup_fz {xs : List V} (ob : Obj) : HO.tup xs ≠ Fz ob := fun z => by cases z
theorem lst_fz {xs : List V} (ob : Obj) : HO.lst xs ≠ Fz ob := fun z => by cases z
theorem Pr.strip {cl : List (Str × Addr)} {fr : List Str} {ws : List (Option V)} {H : Hp} (h : ClosAt cl fr ws H) {x : V} {e : Int × Int} (p : Pr H x e) : Pr (strip cl H) x e := by
  obtain ⟨a, e1, e2⟩ := p
  exact ⟨a, e1, by rw [strip_out (h.out e2 tup_fz)]; exact e2⟩
theorem LogAt.get {H : Hp} : ∀ {ps : List V} {l : Lg} {i : Nat} {x : V}, LogAt H ps l → ps[i]? = some x → ∃ z, l[i]? = some z ∧ ∃ t, x = V.ref t ∧ H t = some (.tup [z.1, z.2])
  | _, _, _, _, .nil, e => by simp at e
  | _, _, 0, _, .cons r _, e => by
    simp at e
    subst e
    exact ⟨_, rfl, r⟩
  | _, _, i + 1, _, .cons _ t, e => by
    obtain ⟨z, h1, h2⟩ := LogAt.get (i := i) t (by simpa using e)
    exact ⟨z, by simpa using h1, h2⟩
/-- the end of a lambda's call that writes a question down -/
theorem relend_ask {cl : List (Str × Addr)} {fr : List Str} {ws : List (Option V)} {H : Hp} {q t : Addr} {x y : V} {ps : List V} (C : ClosAt cl fr ws H) (hq : H q = some (.lst ps)) (ht : strip cl H t = none)
    (hf : ∀ b, b ∈ cl.map (·.2) → upd (upd (strip cl H) t (.tup [x, y])) q (.lst (ps ++ [.ref t])) b = Option.none) :
    KB q H (relend cl H (upd (upd (strip cl H) t (.tup [x, y])) q (.lst (ps ++ [.ref t])))) ∧ Stay q H (upd (relend cl H (upd (upd (strip cl H) t (.tup [x, y])) q (.lst (ps ++ [.ref t])))) q (.lst ps)) ∧
    relend cl H (upd (upd (strip cl H) t (.tup [x, y])) q (.lst (ps ++ [.ref t]))) q = some (.lst (ps ++ [.ref t])) ∧ relend cl H (upd (upd (strip cl H) t (.tup [x, y])) q (.lst (ps ++ [.ref t]))) t = some (.tup [x, y]) ∧ H t = Option.none := by
  have qc : q ∉ cl.map (·.2) := C.out hq lst_fz
  have hqs : strip cl H q = some (.lst ps) := by rw [strip_out qc]; exact hq
  have qt : q ≠ t := ne_of_none hqs ht
  have tc : t ∉ cl.map (·.2) := fun z => by
    have e := hf t z
    rw [upd_ne qt.symm, upd_same] at e
    cases e
  have ht' : H t = none := by rw [strip_out tc] at ht; exact ht
  have inR : ∀ b, b ∈ cl.map (·.2) → relend cl H (upd (upd (strip cl H) t (.tup [x, y])) q (.lst (ps ++ [.ref t]))) b = H b := fun b hb => if_pos hb
  have outR : ∀ b, b ∉ cl.map (·.2) → relend cl H (upd (upd (strip cl H) t (.tup [x, y])) q (.lst (ps ++ [.ref t]))) b = upd (upd (strip cl H) t (.tup [x, y])) q (.lst (ps ++ [.ref t])) b := fun b hb => if_neg hb
  have keep : ∀ b o, b ≠ q → H b = some o → relend cl H (upd (upd (strip cl H) t (.tup [x, y])) q (.lst (ps ++ [.ref t]))) b = some o := fun b o hb e => by
    by_cases hc : b ∈ cl.map (·.2)
    · rw [inR b hc]
      exact e
    · rw [outR b hc, upd_ne hb, upd_ne (ne_of_none e ht'), strip_out hc]
      exact e
  refine ⟨⟨keep, fun b xs e => keep b _ (fun z => by
    rw [z, hq] at e
    cases e) e⟩, fun b o e f => ?_, by rw [outR q qc, upd_same], by rw [outR t tc, upd_ne qt.symm, upd_same], ht'⟩
  by_cases hb : b = q
  · rw [hb, upd_same]
    rw [hb, hq] at e
    exact e
  · rw [upd_ne hb]
    exact keep b o hb e
/-! ### the order that writes down what it is asked -/
section
variable {P : Program} {w : World} {K : PySem.W.Frag} {mg : Str → Option Value} {base : Heap}
/-- the function at f, its code, its cells, the log at q -/
def AskLog (f q c' : Addr) (pm ctv : Value) (qn : Str) (params : Arguments) (body : Expr) (scope : Scope) (cl : List (Str × Addr)) (fr : List Str) (ws : List (Option V)) (l : Lg) (H : Hp) : Prop :=
  H f = some (Fz (PySem.W.kla_obj "<lambda>" qn params body scope cl pm c' ctv)) ∧ H c' = some (CodeO c' qn) ∧ ClosAt cl fr ws H ∧ ∃ qs, H q = some (.lst qs) ∧ LogAt H qs l
theorem codeO_fz {c : Addr} {q : Str} (ob : Obj) : CodeO c q ≠ Fz ob := fun z => by
  unfold CodeO at z
  cases z
def mkOrc {f q c' : Addr} {pm ctv : Value} {qn : Str} {params : Arguments} {body : Expr} {scope : Scope} {cl : List (Str × Addr)} {ps fr : List Str} {ws : List (Option V)} (ans : Lg → V → V → Int) (Dom : V → Hp → Prop) {t : TE}
    (S : NdefX.NScope (ps ++ fr) ps fr scope) (two : ps.length = 2) (hw : ws.length = fr.length)
    (hb : ∀ us : List Value, us.length = ps.length → bindArgs (PySem.W.kla_fn "<lambda>" qn params body scope cl pm (.ref c') ctv) ⟨us, []⟩ = pure (ps.zip us))
    (dom : ∀ {x : V} {H H' : Hp}, TK H H' → Dom x H → Dom x H')
    (B : ∀ (A : Around) (outer : List Env) (s : Shared) (H0 : Hp), Room 2 (A.deeper (NdefX.envF (lamNF qn params scope cl c') f s.heap.objs.size)) → PE (NdefX.ncx CX0 P w K mg base (ps ++ fr) (lamNF qn params scope cl c') f A outer s H0 E0).nox body t)
    (hq : ∀ (x y : V) (l : Lg) (qs : List V) (H : Hp) (Q : VK), H q = some (.lst qs) → LogAt H qs l → l.length < 100000 → Dom x H → Dom y H →
      (∀ a, H a = none → Q (.int (ans l x y)) (upd (upd H a (.tup [x, y])) q (.lst (qs ++ [.ref a])))) → t (some x :: some y :: ws) H Q) : Orc P w K mg base where
  f := f
  q := q
  ans := ans
  Log := AskLog f q c' pm ctv qn params body scope cl fr ws
  Dom := Dom
  isf := fun {l H} h => ⟨_, _, _, _, h.1⟩
  isq := fun {l H} h z => by
    obtain ⟨_, _, _, qs, e, _⟩ := h
    rw [z] at e
    cases e
  stay := fun {l H H'} s h => by
    obtain ⟨h1, h2, h3, qs, h4, h5⟩ := h
    exact ⟨s _ _ h1 (.inr True.intro), s _ _ h2 (.inr (by unfold CodeO; exact True.intro)), h3.stay s, qs, s _ _ h4 (.inl rfl), h5.tk s.tk⟩
  dom := dom
  run := by
    refine fnv_lam (ps := ps) (fr := fr) (N := ps ++ fr) (ws := ws) (pm := pm) (ctv := ctv) (c' := c') (q := qn) (params := params) (body := body) (scope := scope) (cl := cl) S hb (fun vs H Q h => ?_) fun A outer s H vs Q hr h => ⟨t, B A outer s _ hr, ?_⟩
    · obtain ⟨x, y, l, rfl, ⟨h1, h2, h3, _⟩, _⟩ := h
      exact ⟨two.symm, h1, h2, h3⟩
    · obtain ⟨x, y, l, rfl, ⟨h1, h2, h3, qs, h4, h5⟩, hl, dx, dy, hQ⟩ := h
      have qc := h3.out h4 lst_fz
      have hqs : strip cl H q = some (.lst qs) := by rw [strip_out qc]; exact h4
      have kS : TK H (strip cl H) := fun b xs e => by rw [strip_out (h3.out e tup_fz)]; exact e
      have es : NdefX.startF (ps ++ fr) [x, y] ws = some x :: some y :: ws := by
        unfold NdefX.startF
        rw [List.length_append, two, hw]
        simp
      rw [es]
      refine hq x y l qs (strip cl H) _ hqs (h5.tk kS) hl (dom kS dx) (dom kS dy) fun a ha hf => ?_
      obtain ⟨kb, st, e1, e2, e3⟩ := relend_ask h3 h4 ha hf
      have fq : f ≠ q := fun z => by
        rw [z, h4] at h1
        cases h1
      have cq : c' ≠ q := fun z => by
        rw [z, h4] at h2
        exact absurd (Option.some.inj h2).symm (by unfold CodeO; intro y; cases y)
      have cl3 : ClosAt cl fr ws (relend cl H (upd (upd (strip cl H) a (.tup [x, y])) q (.lst (qs ++ [.ref a])))) := by
        refine ⟨h3.len, fun b hb => ?_, h3.inj, fun i y e => ?_⟩
        · obtain ⟨o, v, e, r⟩ := h3.all b hb
          exact ⟨o, v, by rw [show relend cl H _ b = H b from if_pos hb]; exact e, r⟩
        · obtain ⟨c, hc, hv⟩ := h3.has i y e
          refine ⟨c, hc, fun v ev => ?_⟩
          obtain ⟨o, u, e4, r⟩ := hv v ev
          exact ⟨o, u, by rw [show relend cl H _ c = H c from if_pos (lookup_mem2 hc)]; exact e4, r⟩
      exact hQ _ kb ⟨kb.keep _ _ fq h1, kb.keep _ _ cq h2, cl3, _, e1, (h5.tk kb.tk).snoc e2⟩
end
end Ord

namespace Ord
open PySem PySem.Spec PyProof.Rows L2 LamX
section
variable {X : Cx} {σ : L2.St} {H1 H2 H3 : Hp} {q : Addr}
theorem Lent.same (L : Lent X σ H1 H2) : Same H1 H2 := fun _ _ e => L.keep e
theorem Lent.fzK (L : Lent X σ H1 H2) (hq : ∀ ob, H2 q ≠ some (Fz ob)) (k : KB q H2 H3) {b : Addr} (hb : b ∈ X.env.cells.map (·.2)) : ∃ o, H3 b = some (Fz o) := by
  obtain ⟨o, v, e, _⟩ := L.fz b hb
  exact ⟨o, k.keep b _ (fun z => hq o (by rw [← z]; exact e)) e⟩
theorem Lent.out3 (L : Lent X σ H1 H2) (hq : ∀ ob, H2 q ≠ some (Fz ob)) (k : KB q H2 H3) {b : Addr} {o : HO} (e : H3 b = some o) (n : ∀ ob, o ≠ Fz ob) : b ∉ X.env.cells.map (·.2) := fun hb => by
  obtain ⟨ob, e'⟩ := L.fzK hq k hb
  rw [e] at e'
  exact n ob (Option.some.inj e')
/-- what stood ahead of the call stands behind it -/
theorem Lent.kb (L : Lent X σ H1 H2) (k : KB q H2 H3) : KB q H1 (strip X.env.cells H3) := by
  have nc : ∀ b o, H1 b = some o → b ∉ X.env.cells.map (·.2) := fun b o e hb => by
    rw [L.none_ b hb] at e
    cases e
  exact ⟨fun b o n e => by rw [strip_out (nc b o e)]; exact k.keep b o n (L.keep e), fun b xs e => by rw [strip_out (nc b _ e)]; exact k.tk b xs (L.keep e)⟩
/-- what is found behind the call is there, but the cells -/
theorem Lent.at3 (L : Lent X σ H1 H2) (hq : ∀ ob, H2 q ≠ some (Fz ob)) (k : KB q H2 H3) {b : Addr} {o : HO} (e : H3 b = some o) (n : ∀ ob, o ≠ Fz ob) : strip X.env.cells H3 b = some o := by
  rw [strip_out (L.out3 hq k e n)]
  exact e
theorem Lent.tk3 (L : Lent X σ H1 H2) (hq : ∀ ob, H2 q ≠ some (Fz ob)) (k : KB q H2 H3) : TK H3 (strip X.env.cells H3) := fun b xs e => L.at3 hq k e tup_fz
/-- a new object was not there ahead of the call -/
theorem Lent.free1 (L : Lent X σ H1 H2) {p : Addr} (n : H2 p = none) : H1 p = none := by
  by_cases hb : p ∈ X.env.cells.map (·.2)
  · exact L.none_ p hb
  · rw [← L.out p hb]
    exact n
theorem lst_nfz {H : Hp} {q : Addr} {xs : List V} (e : H q = some (.lst xs)) (ob : Obj) : H q ≠ some (Fz ob) := fun z => by
  rw [e] at z
  cases z
/-- the cells that a lambda made here captured, lent -/
theorem Lent.clos (L : Lent X σ H1 H2) {scope : Scope} {fr : List Str} {js : List Nat} (hfree : ∀ y ∈ scope.names, y.2 = .free → X.env.scope.names.lookup y.1 = some .cell ∨ X.env.scope.names.lookup y.1 = some .free)
    (hfr : ∀ y ∈ fr, (y, NameKind.free) ∈ scope.names) (hjs : js.map (fun j => X.N[j]?) = fr.map some) : ClosAt (cloFrom X.env.cells scope.names []) fr (js.map (NdefX.slotAt σ)) H2 := by
  have hf : ∀ y ∈ scope.names, y.2 = .free → ∃ c, X.env.cells.lookup y.1 = some c := fun y hy e => L.has _ (hfree y hy e)
  refine ⟨?_, fun b hb => ?_, fun x y c e1 e2 => L.inj x y c (NdefX.clo_cm hf e1) (NdefX.clo_cm hf e2), fun i y e => ?_⟩
  · have q := congrArg List.length hjs
    rw [List.length_map, List.length_map] at q
    rw [List.length_map]
    exact q
  · obtain ⟨⟨x, c⟩, hm, e⟩ := List.mem_map.mp hb
    have e : c = b := e
    subst e
    rcases cloFrom_mem hm with hm | ⟨h1, h2⟩
    · cases hm
    · obtain ⟨c1, hc⟩ := hf _ h1 rfl
      have hc : X.env.cells.lookup x = some c1 := hc
      have e2 : c = c1 := by
        rw [h2, hc]
        rfl
      subst e2
      exact L.fz _ (lookup_mem2 hc)
  · have k := hfree (y, .free) (hfr y (List.mem_of_getElem? e)) rfl
    obtain ⟨c, hc⟩ := L.has y k
    refine ⟨c, NdefX.clo_has hf (hfr y (List.mem_of_getElem? e)) hc, fun v ev => ?_⟩
    have e2 : (js.map fun j => X.N[j]?)[i]? = some (some y) := by
      rw [hjs, List.getElem?_map, e]
      rfl
    rw [List.getElem?_map] at e2 ev
    cases ej : js[i]? with
    | none =>
      rw [ej] at e2
      cases e2
    | some j =>
      rw [ej] at e2 ev
      have hj : X.N[j]? = some y := Option.some.inj (show some (X.N[j]?) = some (some y) from e2)
      have hs : σ[j]? = some (some v) := NdefX.slotAt_some (Option.some.inj (show some (NdefX.slotAt σ j) = some (some v) from ev))
      obtain ⟨c', hc', hv⟩ := L.val j y v hj hs k
      rw [hc] at hc'
      cases hc'
      exact hv
/-- the log of the questions, at the call -/
theorem Lent.log {f c' : Addr} {pm ctv : Value} {qn : Str} {params : Arguments} {body : Expr} {scope : Scope} {fr : List Str} {js : List Nat} (L : Lent X σ H1 H2)
    (hfree : ∀ y ∈ scope.names, y.2 = .free → X.env.scope.names.lookup y.1 = some .cell ∨ X.env.scope.names.lookup y.1 = some .free) (hfr : ∀ y ∈ fr, (y, NameKind.free) ∈ scope.names) (hjs : js.map (fun j => X.N[j]?) = fr.map some)
    (f1 : H1 f = some (Fz (PySem.W.kla_obj "<lambda>" qn params body scope (cloFrom X.env.cells scope.names []) pm c' ctv))) (c1 : H1 c' = some (CodeO c' qn)) {l : Lg} {qs : List V} (h4 : H1 q = some (.lst qs)) (h5 : LogAt H1 qs l) :
    AskLog f q c' pm ctv qn params body scope (cloFrom X.env.cells scope.names []) fr (js.map (NdefX.slotAt σ)) l H2 :=
  ⟨L.keep f1, L.keep c1, L.clos hfree hfr hjs, qs, L.keep h4, h5.tk (Same.tk L.same)⟩
end
theorem Tabs.kb {T : List (Addr × Str)} {q : Addr} {H H' : Hp} (t : Tabs T H) (k : KB q H H') (hq : ∀ p ∈ T, p.1 ≠ q) (hc : ∀ c x, H c = some (CodeO c x) → c ≠ q) : Tabs T H' := fun p hp => by
  obtain ⟨ps, h1, h2, h3⟩ := t p hp
  refine ⟨ps, k.keep _ _ (hq p hp) h1, h2, fun pos cv e => ?_⟩
  obtain ⟨c, e1, e2⟩ := h3 pos cv e
  exact ⟨c, e1, k.keep _ _ (hc c _ e2) e2⟩
theorem code_ne {H : Hp} {q c : Addr} {x : Str} {xs : List V} (e : H q = some (.lst xs)) (h : H c = some (CodeO c x)) : c ≠ q := fun z => by
  rw [z, e] at h
  exact absurd (Option.some.inj h) (by unfold CodeO; intro y; cases y)
theorem tbl_ne {T : List (Addr × Str)} {H : Hp} {q : Addr} {xs : List V} (e : H q = some (.lst xs)) (t : Tabs T H) : ∀ p ∈ T, p.1 ≠ q := fun p hp z => by
  obtain ⟨ps, h1, _⟩ := t p hp
  rw [z, e] at h1
  cases h1
theorem Tabs.kb1 {T : List (Addr × Str)} {q : Addr} {H H' : Hp} {xs : List V} (t : Tabs T H) (e : H q = some (.lst xs)) (k : KB q H H') : Tabs T H' := Tabs.kb t k (tbl_ne e t) fun _ _ h => code_ne e h
theorem Tabs.same {T : List (Addr × Str)} {H H' : Hp} (t : Tabs T H) (s : Same H H') : Tabs T H' := t.ext s
/-- behind a lambda's making all but the tables stands -/
theorem ExtN.keep {H H' : Hp} (e : ExtN H H') {b : Addr} {o : HO} (h : H b = some o) (n : ∀ ps, o ≠ .tbl ps) : H' b = some o := e b o h n
theorem lst_tbl {xs : List V} (ps : Array Value) : HO.lst xs ≠ .tbl ps := fun z => by cases z
theorem tup_tbl {xs : List V} (ps : Array Value) : HO.tup xs ≠ .tbl ps := fun z => by cases z
theorem ExtN.tk {H H' : Hp} (e : ExtN H H') : TK H H' := fun b xs h => e b _ h tup_tbl
theorem ExtN.sq {K : PySem.W.Frag} {H H' : Hp} {a : Addr} {xs : List V} (e : ExtN H H') (h : SqL K H a xs) : SqL K H' a xs := by
  rcases h with (h | ⟨o, h⟩) | h
  · exact .inl (.inl (e _ _ h lst_tbl))
  · exact .inl (.inr ⟨o, e _ _ h fun ps z => by cases z⟩)
  · exact .inr h
end Ord
namespace Ord
open PySem PySem.Spec PyProof.Rows L2 LamX
section
variable {P : Program} {w : World} {K : PySem.W.Frag} {mg : Str → Option Value} {base : Heap}
/-- mkOrc, the lambda read off the heap -/
def orcAt {H1 : Hp} {f q c' : Addr} {pm ctv : Value} {qn : Str} {params : Arguments} {body : Expr} {scope : Scope} {cl : List (Str × Addr)} (_f1 : H1 f = some (Fz (PySem.W.kla_obj "<lambda>" qn params body scope cl pm c' ctv)))
    (ps fr : List Str) (ws : List (Option V)) (ans : Lg → V → V → Int) (Dom : V → Hp → Prop) {t : TE}
    (S : NdefX.NScope (ps ++ fr) ps fr scope) (two : ps.length = 2) (hw : ws.length = fr.length)
    (hb : ∀ us : List Value, us.length = ps.length → bindArgs (PySem.W.kla_fn "<lambda>" qn params body scope cl pm (.ref c') ctv) ⟨us, []⟩ = pure (ps.zip us))
    (dom : ∀ {x : V} {H H' : Hp}, TK H H' → Dom x H → Dom x H')
    (B : ∀ (A : Around) (outer : List Env) (s : Shared) (H0 : Hp), Room 2 (A.deeper (NdefX.envF (lamNF qn params scope cl c') f s.heap.objs.size)) → PE (NdefX.ncx CX0 P w K mg base (ps ++ fr) (lamNF qn params scope cl c') f A outer s H0 E0).nox body t)
    (hq : ∀ (x y : V) (l : Lg) (qs : List V) (H : Hp) (Q : VK), H q = some (.lst qs) → LogAt H qs l → l.length < 100000 → Dom x H → Dom y H →
      (∀ a, H a = none → Q (.int (ans l x y)) (upd (upd H a (.tup [x, y])) q (.lst (qs ++ [.ref a])))) → t (some x :: some y :: ws) H Q) : Orc P w K mg base :=
  mkOrc (f := f) (q := q) (c' := c') (pm := pm) (ctv := ctv) (qn := qn) (params := params) (body := body) (scope := scope) (cl := cl) (ps := ps) (fr := fr) (ws := ws) ans Dom S two hw hb dom B hq
/-- as Fun.ok, the code object told -/
theorem Fun.okc {x qual : Str} {st : Stmt} {f : Addr} {fd : FuncData} {N ps : List Str} {k : Nat} {sp : Sp} {c : Addr} (F : Fun K x qual st f fd) (hc : fd.code = .ref c) (S : FnScope N ps (defScope st)) (len : ∀ vs H Q E, sp vs H Q E → vs.length = ps.length)
    (hbody : ∀ (A : Around) (outer : List Env) (s : Shared) (H : Hp) (vs : List V) (Q : VK) (E : XK), Room k (A.deeper (envOfC qual (defScope st) s.heap.objs.size f (.ref c))) → sp vs H Q E →
      ∃ t, PSs (cxOf CX0 P w K mg base N qual (defScope st) f (.ref c) A outer s H E).nox (defBody st) t ∧ t { nx := fun _ H' => Q .non H', rt := Q } (start N vs) H) : FnOk P w K mg base CX0 (k + 1) f fd ps sp := by
  obtain ⟨oc, od, kV, doc, pm, an, cdv, ct, osl, rfl, lk, hcd⟩ := F.ex
  have e : cdv = .ref c := hc
  subst e
  refine fn_of lk hcd S len fun A outer s H vs Q E hr hsp => ?_
  obtain ⟨t, h, q⟩ := hbody A outer s H vs Q E hr hsp
  exact ⟨t, h.nox, q⟩
end
end Ord
namespace Ord
open PySem PySem.Spec PyProof.Rows L2 LamX
/-- behind a call with the cells lent: what is known of the heap, the heap a letter -/
theorem lentQ_of {X : Cx} {Q : VK} {v : V} {H3 : Hp} {F : Hp → Prop} (f : F (strip X.env.cells H3)) (h : ∀ H4, F H4 → Q v H4) : lentQ X Q v H3 := h _ f
end Ord
namespace Ord
open PySem PySem.Spec PyProof.Rows L2 LamX
/-- q is no place where the list at a is tracked -/
def Apart (K : PySem.W.Frag) (q a : Addr) (xs : List V) : Prop := a ≠ q ∨ ∀ H, SqL K H a xs
theorem Apart.new {K : PySem.W.Frag} {H : Hp} {q a : Addr} {xs : List V} (h : SqL K H a xs) (n : H q = none) : Apart K q a xs := by
  rcases h with (h | ⟨o, h⟩) | h
  · exact .inl (ne_of_none h n)
  · exact .inl (ne_of_none h n)
  · exact .inr fun _ => .inr h
theorem Apart.kb {K : PySem.W.Frag} {H H' : Hp} {q a : Addr} {xs : List V} (p : Apart K q a xs) (h : SqL K H a xs) (k : KB q H H') : SqL K H' a xs := by
  rcases p with p | p
  · exact sq_keep h fun o e => k.keep a o p e
  · exact p H'
theorem Apart.wr {K : PySem.W.Frag} {H : Hp} {q a : Addr} {xs : List V} {o : HO} (p : Apart K q a xs) (h : SqL K H a xs) : SqL K (upd H q o) a xs := by
  rcases p with p | p
  · exact sq_keep h fun u e => by rw [upd_ne p]; exact e
  · exact p _
end Ord
namespace Ord
open PySem PySem.Spec PyProof.Rows L2 LamX
section
variable {X : Cx} {σ : L2.St} {H1 H2 H3 : Hp} {q : Addr}
theorem Lent.fzN (L : Lent X σ H1 H2) (hq : H1 q ≠ none) (k : KB q H2 H3) {b : Addr} (hb : b ∈ X.env.cells.map (·.2)) : ∃ o, H3 b = some (Fz o) := by
  obtain ⟨o, v, e, _⟩ := L.fz b hb
  exact ⟨o, k.keep b _ (fun z => hq (by rw [← z]; exact L.none_ b hb)) e⟩
theorem Lent.at4 (L : Lent X σ H1 H2) (hq : H1 q ≠ none) (k : KB q H2 H3) {b : Addr} {o : HO} (e : H3 b = some o) (n : ∀ ob, o ≠ Fz ob) : strip X.env.cells H3 b = some o := by
  have hb : b ∉ X.env.cells.map (·.2) := fun hb => by
    obtain ⟨ob, e'⟩ := L.fzN hq k hb
    rw [e] at e'
    exact n ob (Option.some.inj e')
  rw [strip_out hb]
  exact e
theorem Lent.tk4 (L : Lent X σ H1 H2) (hq : H1 q ≠ none) (k : KB q H2 H3) : TK H3 (strip X.env.cells H3) := fun b xs e => L.at4 hq k e tup_fz
theorem some_nn {H : Hp} {b : Addr} {o : HO} (e : H b = some o) : H b ≠ none := fun z => by
  rw [e] at z
  cases z
end
/-! ### an order that writes nothing down -/
section
variable {P : Program} {w : World} {K : PySem.W.Frag} {mg : Str → Option Value} {base : Heap}
def AnsLog (f c' : Addr) (pm ctv : Value) (qn : Str) (params : Arguments) (body : Expr) (scope : Scope) (cl : List (Str × Addr)) (fr : List Str) (ws : List (Option V)) (_ : Lg) (H : Hp) : Prop :=
  H f = some (Fz (PySem.W.kla_obj "<lambda>" qn params body scope cl pm c' ctv)) ∧ H c' = some (CodeO c' qn) ∧ ClosAt cl fr ws H
def orcNo {H1 : Hp} {f c' : Addr} {pm ctv : Value} {qn : Str} {params : Arguments} {body : Expr} {scope : Scope} {cl : List (Str × Addr)} (_f1 : H1 f = some (Fz (PySem.W.kla_obj "<lambda>" qn params body scope cl pm c' ctv)))
    (ps fr : List Str) (ws : List (Option V)) (ans : V → V → Int) (Dom : V → Hp → Prop) {t : TE}
    (S : NdefX.NScope (ps ++ fr) ps fr scope) (two : ps.length = 2) (hw : ws.length = fr.length)
    (hb : ∀ us : List Value, us.length = ps.length → bindArgs (PySem.W.kla_fn "<lambda>" qn params body scope cl pm (.ref c') ctv) ⟨us, []⟩ = pure (ps.zip us))
    (dom : ∀ {x : V} {H H' : Hp}, TK H H' → Dom x H → Dom x H')
    (B : ∀ (A : Around) (outer : List Env) (s : Shared) (H0 : Hp), Room 2 (A.deeper (NdefX.envF (lamNF qn params scope cl c') f s.heap.objs.size)) → PE (NdefX.ncx CX0 P w K mg base (ps ++ fr) (lamNF qn params scope cl c') f A outer s H0 E0).nox body t)
    (hq : ∀ (x y : V) (H : Hp) (Q : VK), Dom x H → Dom y H → Q (.int (ans x y)) H → t (some x :: some y :: ws) H Q) : Orc P w K mg base where
  f := f
  q := f
  ans := fun _ => ans
  Log := AnsLog f c' pm ctv qn params body scope cl fr ws
  Dom := Dom
  isf := fun {l H} h => ⟨_, _, _, _, h.1⟩
  isq := fun {l H} h => some_nn h.1
  stay := fun {l H H'} s h => ⟨s _ _ h.1 (.inr True.intro), s _ _ h.2.1 (.inr (by unfold CodeO; exact True.intro)), h.2.2.stay s⟩
  dom := dom
  run := by
    refine fnv_lam (ps := ps) (fr := fr) (N := ps ++ fr) (ws := ws) (pm := pm) (ctv := ctv) (c' := c') (q := qn) (params := params) (body := body) (scope := scope) (cl := cl) S hb (fun vs H Q h => ?_) fun A outer s H vs Q hr h => ⟨t, B A outer s _ hr, ?_⟩
    · obtain ⟨x, y, l, rfl, ⟨h1, h2, h3⟩, _⟩ := h
      exact ⟨two.symm, h1, h2, h3⟩
    · obtain ⟨x, y, l, rfl, ⟨h1, h2, h3⟩, hl, dx, dy, hQ⟩ := h
      have kS : TK H (strip cl H) := fun b xs e => by rw [strip_out (h3.out e tup_fz)]; exact e
      have es : NdefX.startF (ps ++ fr) [x, y] ws = some x :: some y :: ws := by
        unfold NdefX.startF
        rw [List.length_append, two, hw]
        simp
      rw [es]
      refine hq x y (strip cl H) _ (dom kS dx) (dom kS dy) fun hf => ?_
      have e : relend cl H (strip cl H) = H := by
        funext b
        by_cases hb : b ∈ cl.map (·.2)
        · exact if_pos hb
        · exact (if_neg hb).trans (strip_out hb)
      rw [e]
      exact hQ H (KB.refl _ _) ⟨h1, h2, h3⟩
theorem Lent.ans {X : Cx} {σ : L2.St} {H1 H2 : Hp} {f c' : Addr} {pm ctv : Value} {qn : Str} {params : Arguments} {body : Expr} {scope : Scope} {fr : List Str} {js : List Nat} {l : Lg} (L : Lent X σ H1 H2)
    (hfree : ∀ y ∈ scope.names, y.2 = .free → X.env.scope.names.lookup y.1 = some .cell ∨ X.env.scope.names.lookup y.1 = some .free) (hfr : ∀ y ∈ fr, (y, NameKind.free) ∈ scope.names) (hjs : js.map (fun j => X.N[j]?) = fr.map some)
    (f1 : H1 f = some (Fz (PySem.W.kla_obj "<lambda>" qn params body scope (cloFrom X.env.cells scope.names []) pm c' ctv))) (c1 : H1 c' = some (CodeO c' qn)) :
    AnsLog f c' pm ctv qn params body scope (cloFrom X.env.cells scope.names []) fr (js.map (NdefX.slotAt σ)) l H2 := ⟨L.keep f1, L.keep c1, L.clos hfree hfr hjs⟩
end
/-! ### a log as data -/
def pd2 (e : (Int × Int) × (Int × Int)) : PyData := .tuple [pd e.1, pd e.2]
def cc2 (c : V → Int × Int) (z : V × V) : (Int × Int) × (Int × Int) := (c z.1, c z.2)
theorem dp_log {K : PySem.W.Frag} {H : Hp} {c : V → Int × Int} : ∀ {ps : List V} {l : Lg}, LogAt H ps l → (∀ z ∈ l, El c z.1 H ∧ El c z.2 H) → DpAll K H ps (l.map fun z => pd2 (cc2 c z))
  | _, _, .nil, _ => .nil
  | _, _, .cons r t, h => by
    obtain ⟨p, rfl, e⟩ := r
    have hz := h _ List.mem_cons_self
    exact .cons (.tup (SqT.of e) (.cons (dp_el hz.1.1) (.cons (dp_el hz.2.1) .nil))) (dp_log t fun z hz => h z (List.mem_cons_of_mem _ hz))
theorem canLay_pd2 (e : (Int × Int) × (Int × Int)) : (pd2 e).canLay0 = true := by
  unfold pd2
  rw [PyData.canLay0, PyData.canLayAll0, PyData.canLayAll0, PyData.canLayAll0, canLay_pd, canLay_pd]
  rfl
theorem depth_pd2 (e : (Int × Int) × (Int × Int)) : (pd2 e).depth ≤ 8 := by
  have h1 := depth_pd e.1
  have h2 := depth_pd e.2
  unfold pd2
  rw [PyData.depth, PyData.depthAll, PyData.depthAll, PyData.depthAll]
  omega
theorem shaped_log {α : Type} (g : α → (Int × Int) × (Int × Int)) (xs : List α) : SeqAt.shaped (.list (xs.map fun x => pd2 (g x))) = true := by
  have a : ∀ xs : List α, PyData.canLayAll0 (xs.map fun x => pd2 (g x)) = true ∧ PyData.depthAll (xs.map fun x => pd2 (g x)) ≤ 8 := by
    intro xs
    induction xs with
    | nil => exact ⟨rfl, by simp [PyData.depthAll]⟩
    | cons x xs ih =>
      have h1 := depth_pd2 (g x)
      rw [List.map_cons, PyData.canLayAll0, PyData.depthAll, ih.1, canLay_pd2]
      refine ⟨rfl, ?_⟩
      have := ih.2
      omega
  refine shaped_of (by rw [PyData.canLay0]; exact (a xs).1) ?_
  rw [PyData.depth]
  have := (a xs).2
  omega
theorem eqv_log {α β : Type} (g : α → (Int × Int) × (Int × Int)) (g' : β → (Int × Int) × (Int × Int)) (xs : List α) (ys : List β) : PyData.eqv (.list (xs.map fun x => pd2 (g x))) (.list (ys.map fun x => pd2 (g' x))) = decide (xs.map g = ys.map g') := by
  have e2 : ∀ a b, PyData.eqv (pd2 a) (pd2 b) = decide (a = b) := fun a b => by
    unfold pd2
    rw [PyData.eqv, PyData.eqvAll, PyData.eqvAll, PyData.eqvAll, eqv_pd, eqv_pd]
    obtain ⟨a1, a2⟩ := a
    obtain ⟨b1, b2⟩ := b
    by_cases h1 : a1 = b1
    · by_cases h2 : a2 = b2
      · simp [h1, h2]
      · simp [h1, h2]
    · simp [h1]
  rw [PyData.eqv]
  induction xs generalizing ys with
  | nil => cases ys with
    | nil => rw [List.map_nil, List.map_nil, List.map_nil, PyData.eqvAll]; simp
    | cons y ys => rw [List.map_nil, List.map_cons, PyData.eqvAll]; simp
  | cons x xs ih => cases ys with
    | nil => rw [List.map_cons, List.map_nil, PyData.eqvAll]; simp
    | cons y ys =>
      rw [List.map_cons, List.map_cons, PyData.eqvAll, e2, ih]
      by_cases h1 : g x = g' y
      · by_cases h2 : xs.map g = ys.map g'
        · simp [h1, h2]
        · simp [h1, h2]
      · simp [h1]
end Ord

namespace Ord
open PySem PySem.Spec PyProof.Rows L2 LamX
/-- what stands from call to call: the order with its log, lists, elements -/
structure Held (q f c' : Addr) (ob : Obj) (qn : Str) (ps : List (Addr × List V)) (es : List V) (c : V → Int × Int) (l : Lg) (H : Hp) : Prop where
  hq : ∃ qs, H q = some (.lst qs) ∧ LogAt H qs l
  hf : H f = some (Fz ob)
  hc : H c' = some (CodeO c' qn)
  ls : ∀ p ∈ ps, H p.1 = some (.lst p.2) ∧ p.1 ≠ q
  el : Els c es H
variable {q f c' : Addr} {ob : Obj} {qn : Str} {ps : List (Addr × List V)} {es : List V} {c : V → Int × Int} {l l' : Lg} {H H' : Hp}
theorem Held.same (h : Held q f c' ob qn ps es c l H) (s : Same H H') : Held q f c' ob qn ps es c l H' := by
  obtain ⟨qs, h1, h2⟩ := h.hq
  exact ⟨⟨qs, s _ _ h1, h2.tk (Same.tk s)⟩, s _ _ h.hf, s _ _ h.hc, fun p hp => ⟨s _ _ (h.ls p hp).1, (h.ls p hp).2⟩, h.el.tk (Same.tk s)⟩
theorem Held.put (h : Held q f c' ob qn ps es c l H) {p : Addr} {zs : List V} (e : H p = some (.lst zs)) (n : p ≠ q) : Held q f c' ob qn ((p, zs) :: ps) es c l H :=
  ⟨h.hq, h.hf, h.hc, fun r hr => by
    rcases List.mem_cons.mp hr with z | z
    · rw [z]; exact ⟨e, n⟩
    · exact h.ls r z, h.el⟩
theorem Held.less {ps' : List (Addr × List V)} (h : Held q f c' ob qn ps es c l H) (s : ∀ p ∈ ps', p ∈ ps) : Held q f c' ob qn ps' es c l H := ⟨h.hq, h.hf, h.hc, fun r hr => h.ls r (s r hr), h.el⟩
theorem Held.nq (h : Held q f c' ob qn ps es c l H) {p : Addr} (n : H p = none) : p ≠ q := fun z => by
  obtain ⟨qs, h1, _⟩ := h.hq
  rw [z, h1] at n
  cases n
theorem Held.wr (h : Held q f c' ob qn ps es c l H) {qs : List V} {l' : Lg} (n : LogAt H qs l') : Held q f c' ob qn ps es c l' (upd H q (.lst qs)) := by
  obtain ⟨q0, h1, _⟩ := h.hq
  have k : TK H (upd H q (.lst qs)) := TK.wr h1 nf_lst
  have fq : f ≠ q := fun z => by
    have e := h.hf
    rw [z, h1] at e
    cases e
  have cq : c' ≠ q := code_ne h1 h.hc
  exact ⟨⟨qs, upd_same, n.tk k⟩, (upd_ne fq).trans h.hf, (upd_ne cq).trans h.hc, fun p hp => ⟨(upd_ne (h.ls p hp).2).trans (h.ls p hp).1, (h.ls p hp).2⟩, h.el.tk k⟩
theorem Held.lent {X : Cx} {σ : L2.St} {H8 H9 H10 : Hp} (h : Held q f c' ob qn ps es c l H8) (L : Lent X σ H8 H9) (kb : KB q H9 H10) (n : ∃ qs, H10 q = some (.lst qs) ∧ LogAt H10 qs l') : Held q f c' ob qn ps es c l' (strip X.env.cells H10) := by
  obtain ⟨q0, h1, _⟩ := h.hq
  obtain ⟨qs, h2, h3⟩ := n
  have nfz := lst_nfz (L.keep h1)
  have kbF := L.kb kb
  have fq : f ≠ q := fun z => by
    have e := h.hf
    rw [z, h1] at e
    cases e
  have cq : c' ≠ q := code_ne h1 h.hc
  exact ⟨⟨qs, L.at3 nfz kb h2 lst_fz, h3.tk (L.tk3 nfz kb)⟩, kbF.keep _ _ fq h.hf, kbF.keep _ _ cq h.hc, fun p hp => ⟨kbF.keep _ _ (h.ls p hp).2 (h.ls p hp).1, (h.ls p hp).2⟩, h.el.tk kbF.tk⟩
theorem Held.at3 {X : Cx} {σ : L2.St} {H8 H9 H10 : Hp} (h : Held q f c' ob qn ps es c l H8) (L : Lent X σ H8 H9) (kb : KB q H9 H10) {p : Addr} {o : HO} (e : H10 p = some o) (n : ∀ ob, o ≠ Fz ob) : strip X.env.cells H10 p = some o := by
  obtain ⟨q0, h1, _⟩ := h.hq
  exact L.at3 (lst_nfz (L.keep h1)) kb e n
theorem Held.all {X : Cx} {σ : L2.St} {H8 H9 : Hp} (h : Held q f c' ob qn ps es c l H8) (L : Lent X σ H8 H9) {xs : List V} (s : ∀ x ∈ xs, x ∈ es) : ∀ x ∈ xs, El c x H9 := fun x hx => (h.el x (s x hx)).tk (Same.tk L.same)
/-- two rows as data -/
theorem shaped_rows2 {α : Type} (g : α → Int × Int) (xs ys : List α) : SeqAt.shaped (.list [.list (xs.map fun x => pd (g x)), .list (ys.map fun x => pd (g x))]) = true := by
  have h1 := depthAll_pd g xs
  have h2 := depthAll_pd g ys
  refine shaped_of (by rw [PyData.canLay0, PyData.canLayAll0, PyData.canLayAll0, PyData.canLayAll0, PyData.canLay0, PyData.canLay0, canLayAll_pd, canLayAll_pd]; rfl) ?_
  rw [PyData.depth, PyData.depthAll, PyData.depthAll, PyData.depthAll, PyData.depth, PyData.depth]
  omega
theorem eqv_rows2 {α : Type} (g : α → Int × Int) (xs ys : List α) : PyData.eqv (.list [.list (xs.map fun x => pd (g x)), .list (ys.map fun x => pd (g x))]) (.list [.list (xs.map fun x => pd (g x)), .list (ys.map fun x => pd (g x))]) = true := by
  rw [PyData.eqv, PyData.eqvAll, PyData.eqvAll, PyData.eqvAll, eqv_row, eqv_row]
  simp
end Ord
namespace Ord
open PySem PySem.Spec PyProof.Rows L2 LamX
/-- the object and its name, as letters -/
theorem held_ex {q f c' : Addr} {ob : Obj} {qn : Str} {ps : List (Addr × List V)} {es : List V} {c : V → Int × Int} {l : Lg} {H : Hp} (h : Held q f c' ob qn ps es c l H) : ∃ ob' qn', ob' = ob ∧ qn' = qn ∧ Held q f c' ob' qn' ps es c l H := ⟨_, _, rfl, rfl, h⟩
end Ord

/-! a list that nobody writes: known for good; orders that look at it and make things of their own -/
namespace Ord
open PySem PySem.Spec PyProof.Rows L2 LamX
/-- the list at a stands for good -/
def SqF (K : PySem.W.Frag) (H : Hp) (a : Addr) (xs : List V) : Prop := (∃ o, H a = some (.frz o (.lst xs))) ∨ ∀ H', SqL K H' a xs
/-- what is locked as a list stands -/
def EK (H H' : Hp) : Prop := ∀ b u xs, H b = some (.frz u (.lst xs)) → H' b = some (.frz u (.lst xs))
theorem EK.same {H H' : Hp} (s : Same H H') : EK H H' := fun b u xs e => s _ _ e
theorem EK.trans {H H1 H2 : Hp} (a : EK H H1) (b : EK H1 H2) : EK H H2 := fun c u xs e => b c u xs (a c u xs e)
theorem EK.stay {q : Addr} {H H' : Hp} (s : Stay q H H') : EK H H' := fun b u xs e => s _ _ e (.inr True.intro)
theorem EK.kb {q : Addr} {H H' : Hp} (k : KB q H H') (hq : ∀ u xs, H q ≠ some (.frz u (.lst xs))) : EK H H' := fun b u xs e => k.keep _ _ (fun z => hq u xs (by rw [← z]; exact e)) e
theorem EK.wr {H : Hp} {q : Addr} {o u : HO} (e : H q = some u) (n : ∀ w xs, u ≠ .frz w (.lst xs)) : EK H (upd H q o) := fun b w xs h => by
  rw [upd_ne (fun z => by
    rw [z, e] at h
    exact n w xs (Option.some.inj h))]
  exact h
theorem EK.strip {cl : List (Str × Addr)} {H : Hp} (h : ∀ b ∈ cl.map (·.2), ∃ ob, H b = some (Fz ob)) : EK H (strip cl H) := fun b u xs e => by
  rw [strip_out (fun hb => by
    obtain ⟨ob, e'⟩ := h b hb
    rw [e] at e'
    cases e')]
  exact e
theorem lst_nfl {q : Addr} {H : Hp} {ys : List V} (e : H q = some (.lst ys)) (u : Obj) (xs : List V) : H q ≠ some (.frz u (.lst xs)) := fun z => by
  rw [e] at z
  cases z
theorem SqF.ek {K : PySem.W.Frag} {H H' : Hp} {a : Addr} {xs : List V} (h : SqF K H a xs) (k : EK H H') : SqF K H' a xs := h.elim (fun ⟨o, e⟩ => .inl ⟨o, k _ _ _ e⟩) .inr
theorem SqF.sq {K : PySem.W.Frag} {H : Hp} {a : Addr} {xs : List V} (h : SqF K H a xs) : SqL K H a xs := h.elim (fun ⟨o, e⟩ => .inl (.inr ⟨o, e⟩)) fun h => h H
theorem SqF.ext {K : PySem.W.Frag} {H H' : Hp} {a : Addr} {xs : List V} (h : SqF K H a xs) (e : ExtN H H') : SqF K H' a xs := h.ek fun b u ys q => e _ _ q fun ps z => by cases z
/-- a def that is shown for locked lists is shown for all -/
theorem fn_frz {P : Program} {w : World} {K : PySem.W.Frag} {mg : Str → Option Value} {base : Heap} {k : Nat} {f : Addr} {fd : FuncData} {ps : List Str} {sp sp' : Sp} (F : FnOk P w K mg base CX0 k f fd ps sp') (len : ∀ vs H Q E, sp vs H Q E → vs.length = ps.length)
    (h : ∀ vs H Q E, sp vs H Q E → sp' vs H Q E ∨ ∃ (a : Addr) (xs : List V), H a = some (.lst xs) ∧ ∀ o, sp' vs (upd H a (.frz o (.lst xs))) Q E) : FnOk P w K mg base CX0 k f fd ps sp := by
  refine ⟨len, fun A outer s H args us vs Q E hr e0 hb r hs => ?_⟩
  rcases h vs H Q E hs with h | ⟨a, xs, ha, h⟩
  · exact F.run A outer s H args us vs Q E hr e0 hb r h
  · obtain ⟨zl, its, n, rv, hl⟩ := e0.hok a _ ha
    obtain ⟨H2, e2⟩ : ∃ H2, H2 = upd H a (.frz { cls := .type "list", data := .seq its.toArray n } (.lst xs)) := ⟨_, rfl⟩
    have hn : ∀ b, H b = none → H2 b = none := fun b e => by
      rw [e2, upd_ne (fun z => by
        rw [z, ha] at e
        cases e)]
      exact e
    have hk : ∀ b o, H b = some o → o ≠ .lst xs → H2 b = some o := fun b o e no => by
      rw [e2, upd_ne (fun z => by
        rw [z, ha] at e
        exact no (Option.some.inj e).symm)]
      exact e
    have hok2 : HOk P w H2 s.heap := fun b y e => by
      by_cases hb : b = a
      · rw [hb, e2, upd_same] at e
        cases e
        rw [hb]
        exact ⟨hl, zl, its, n, rv, hl⟩
      · rw [e2, upd_ne hb] at e
        exact (e0.hok b y e).stay (fun _ _ _ q => q) (fun c q => hk c _ q fun z => by cases z) fun c xs q => hk c _ q fun z => by cases z
    have g := F.run A outer s H2 args us vs Q E hr ⟨e0.frames, e0.mod, fun b o e => ⟨(e0.bs b o e).1, hn _ (e0.bs b o e).2⟩, e0.bsz, e0.funs, fun b hb => hn _ (e0.frf b hb), hok2, e0.bare⟩ hb r (by rw [e2]; exact h _)
    refine codeAny_mono g fun r s' hq => ?_
    cases r with
    | error e => exact False.elim hq
    | ok fl =>
      cases fl with
      | ret u =>
        obtain ⟨v, H', os, bare, U, hok, rv, q⟩ := hq
        exact ⟨v, H', os, bare, ⟨fun b o e n => U.keep b o e (hn b n), fun b o e n => U.slot b o e (hn b n), fun b o e n => U.free b o e (hn b n), U.there, fun b xs e => U.tups b xs (hk b _ e fun z => by cases z), fun b o y e => U.frzs b o y (hk b _ e fun z => by cases z), fun b ps e => U.tbls b ps (hk b _ e fun z => by cases z)⟩, hok, rv, q⟩
      | next => exact False.elim hq
      | brk => exact False.elim hq
      | cont => exact False.elim hq
/-- the end of a lambda's call that writes a question down and makes things of its own -/
theorem relend_ask2 {cl : List (Str × Addr)} {fr : List Str} {ws : List (Option V)} {H H3 : Hp} {q t : Addr} {x y : V} {ps : List V} (C : ClosAt cl fr ws H) (hq : H q = some (.lst ps)) (ht : strip cl H t = none)
    (s3 : Same (upd (upd (strip cl H) t (.tup [x, y])) q (.lst (ps ++ [.ref t]))) H3) (hf : ∀ b, b ∈ cl.map (·.2) → H3 b = Option.none) :
    KB q H (relend cl H H3) ∧ relend cl H H3 q = some (.lst (ps ++ [.ref t])) ∧ relend cl H H3 t = some (.tup [x, y]) ∧ H t = Option.none := by
  have qc : q ∉ cl.map (·.2) := C.out hq lst_fz
  have hqs : strip cl H q = some (.lst ps) := by rw [strip_out qc]; exact hq
  have qt : q ≠ t := ne_of_none hqs ht
  have e3 : H3 t = some (.tup [x, y]) := s3 _ _ (by rw [upd_ne qt.symm, upd_same])
  have tc : t ∉ cl.map (·.2) := fun z => by
    have e := hf t z
    rw [e3] at e
    cases e
  have ht' : H t = none := by rw [strip_out tc] at ht; exact ht
  have inR : ∀ b, b ∈ cl.map (·.2) → relend cl H H3 b = H b := fun b hb => if_pos hb
  have outR : ∀ b, b ∉ cl.map (·.2) → relend cl H H3 b = H3 b := fun b hb => if_neg hb
  have keep : ∀ b o, b ≠ q → H b = some o → relend cl H H3 b = some o := fun b o hb e => by
    by_cases hc : b ∈ cl.map (·.2)
    · rw [inR b hc]
      exact e
    · rw [outR b hc]
      refine s3 _ _ ?_
      rw [upd_ne hb, upd_ne (ne_of_none e ht'), strip_out hc]
      exact e
  refine ⟨⟨keep, fun b xs e => keep b _ (fun z => by
    rw [z, hq] at e
    cases e) e⟩, by rw [outR q qc]; exact s3 _ _ upd_same, by rw [outR t tc]; exact e3, ht'⟩
section
variable {P : Program} {w : World} {K : PySem.W.Frag} {mg : Str → Option Value} {base : Heap}
/-- an order that looks at what is locked (Ex) and writes its questions down; read off the heap -/
def orcX {H1 : Hp} {f q c' : Addr} {pm ctv : Value} {qn : Str} {params : Arguments} {body : Expr} {scope : Scope} {cl : List (Str × Addr)} (_f1 : H1 f = some (Fz (PySem.W.kla_obj "<lambda>" qn params body scope cl pm c' ctv)))
    (ps fr : List Str) (ws : List (Option V)) (ans : Lg → V → V → Int) (Dom : V → Hp → Prop) (Ex : Hp → Prop) {t : TE}
    (S : NdefX.NScope (ps ++ fr) ps fr scope) (two : ps.length = 2) (hw : ws.length = fr.length)
    (hb : ∀ us : List Value, us.length = ps.length → bindArgs (PySem.W.kla_fn "<lambda>" qn params body scope cl pm (.ref c') ctv) ⟨us, []⟩ = pure (ps.zip us))
    (dom : ∀ {x : V} {H H' : Hp}, TK H H' → Dom x H → Dom x H') (exk : ∀ {H H' : Hp}, EK H H' → Ex H → Ex H')
    (B : ∀ (A : Around) (outer : List Env) (s : Shared) (H0 : Hp), Room 2 (A.deeper (NdefX.envF (lamNF qn params scope cl c') f s.heap.objs.size)) → PE (NdefX.ncx CX0 P w K mg base (ps ++ fr) (lamNF qn params scope cl c') f A outer s H0 E0).nox body t)
    (hq : ∀ (x y : V) (l : Lg) (qs : List V) (H : Hp) (Q : VK), H q = some (.lst qs) → LogAt H qs l → l.length < 100000 → Ex H → Dom x H → Dom y H →
      (∀ a H', H a = none → Same (upd (upd H a (.tup [x, y])) q (.lst (qs ++ [.ref a]))) H' → Q (.int (ans l x y)) H') → t (some x :: some y :: ws) H Q) : Orc P w K mg base where
  f := f
  q := q
  ans := ans
  Log := fun l H => AskLog f q c' pm ctv qn params body scope cl fr ws l H ∧ Ex H
  Dom := Dom
  isf := fun {l H} h => ⟨_, _, _, _, h.1.1⟩
  isq := fun {l H} h z => by
    obtain ⟨⟨_, _, _, qs, e, _⟩, _⟩ := h
    rw [z] at e
    cases e
  stay := fun {l H H'} s h => by
    obtain ⟨⟨h1, h2, h3, qs, h4, h5⟩, h6⟩ := h
    exact ⟨⟨s _ _ h1 (.inr True.intro), s _ _ h2 (.inr (by unfold CodeO; exact True.intro)), h3.stay s, qs, s _ _ h4 (.inl rfl), h5.tk s.tk⟩, exk (EK.stay s) h6⟩
  dom := dom
  run := by
    refine fnv_lam (ps := ps) (fr := fr) (N := ps ++ fr) (ws := ws) (pm := pm) (ctv := ctv) (c' := c') (q := qn) (params := params) (body := body) (scope := scope) (cl := cl) S hb (fun vs H Q h => ?_) fun A outer s H vs Q hr h => ⟨t, B A outer s _ hr, ?_⟩
    · obtain ⟨x, y, l, rfl, ⟨⟨h1, h2, h3, _⟩, _⟩, _⟩ := h
      exact ⟨two.symm, h1, h2, h3⟩
    · obtain ⟨x, y, l, rfl, ⟨⟨h1, h2, h3, qs, h4, h5⟩, h6⟩, hl, dx, dy, hQ⟩ := h
      have qc := h3.out h4 lst_fz
      have hqs : strip cl H q = some (.lst qs) := by rw [strip_out qc]; exact h4
      have kS : TK H (strip cl H) := fun b xs e => by rw [strip_out (h3.out e tup_fz)]; exact e
      have kE : EK H (strip cl H) := EK.strip fun b hb => by
        obtain ⟨ob, v, e, _⟩ := h3.all b hb
        exact ⟨ob, e⟩
      have es : NdefX.startF (ps ++ fr) [x, y] ws = some x :: some y :: ws := by
        unfold NdefX.startF
        rw [List.length_append, two, hw]
        simp
      rw [es]
      refine hq x y l qs (strip cl H) _ hqs (h5.tk kS) hl (exk kE h6) (dom kS dx) (dom kS dy) fun a H3 ha s3 hf => ?_
      obtain ⟨kb, e1, e2, e3⟩ := relend_ask2 h3 h4 ha s3 hf
      have fq : f ≠ q := fun z => by
        rw [z, h4] at h1
        cases h1
      have cq : c' ≠ q := fun z => by
        rw [z, h4] at h2
        exact absurd (Option.some.inj h2).symm (by unfold CodeO; intro y; cases y)
      have cl3 : ClosAt cl fr ws (relend cl H H3) := by
        refine ⟨h3.len, fun b hb => ?_, h3.inj, fun i y e => ?_⟩
        · obtain ⟨o, v, e, r⟩ := h3.all b hb
          exact ⟨o, v, by rw [show relend cl H _ b = H b from if_pos hb]; exact e, r⟩
        · obtain ⟨c, hc, hv⟩ := h3.has i y e
          refine ⟨c, hc, fun v ev => ?_⟩
          obtain ⟨o, u, e4, r⟩ := hv v ev
          exact ⟨o, u, by rw [show relend cl H _ c = H c from if_pos (lookup_mem2 hc)]; exact e4, r⟩
      exact hQ _ kb ⟨⟨kb.keep _ _ fq h1, kb.keep _ _ cq h2, cl3, _, e1, (h5.tk kb.tk).snoc e2⟩, exk (EK.kb kb (lst_nfl h4)) h6⟩
end
end Ord
namespace Ord
open PySem PySem.Spec PyProof.Rows L2 LamX
/-! what stands from call to call, and the script -/
def HeldS (K : PySem.W.Frag) (sc : Addr) (ns : List V) (q f c' : Addr) (ob : Obj) (qn : Str) (ps : List (Addr × List V)) (es : List V) (c : V → Int × Int) (l : Lg) (H : Hp) : Prop := Held q f c' ob qn ps es c l H ∧ SqF K H sc ns
section
variable {K : PySem.W.Frag} {sc : Addr} {ns : List V} {q f c' : Addr} {ob : Obj} {qn : Str} {ps : List (Addr × List V)} {es : List V} {c : V → Int × Int} {l l' : Lg} {H H' : Hp}
theorem HeldS.same (h : HeldS K sc ns q f c' ob qn ps es c l H) (s : Same H H') : HeldS K sc ns q f c' ob qn ps es c l H' := ⟨h.1.same s, h.2.ek (EK.same s)⟩
theorem HeldS.put (h : HeldS K sc ns q f c' ob qn ps es c l H) {p : Addr} {zs : List V} (e : H p = some (.lst zs)) (n : p ≠ q) : HeldS K sc ns q f c' ob qn ((p, zs) :: ps) es c l H := ⟨h.1.put e n, h.2⟩
theorem HeldS.wr (h : HeldS K sc ns q f c' ob qn ps es c l H) {qs : List V} {l' : Lg} (n : LogAt H qs l') : HeldS K sc ns q f c' ob qn ps es c l' (upd H q (.lst qs)) := by
  obtain ⟨q0, h1, _⟩ := h.1.hq
  exact ⟨h.1.wr n, h.2.ek (EK.wr h1 fun w xs z => by cases z)⟩
theorem HeldS.lent {X : Cx} {σ : L2.St} {H8 H9 H10 : Hp} (h : HeldS K sc ns q f c' ob qn ps es c l H8) (L : Lent X σ H8 H9) (kb : KB q H9 H10) (n : ∃ qs, H10 q = some (.lst qs) ∧ LogAt H10 qs l') : HeldS K sc ns q f c' ob qn ps es c l' (strip X.env.cells H10) := by
  obtain ⟨q0, h1, _⟩ := h.1.hq
  exact ⟨h.1.lent L kb n, ((h.2.ek (EK.same L.same)).ek (EK.kb kb (lst_nfl (L.keep h1)))).ek (EK.strip fun b hb => L.fzK (lst_nfz (L.keep h1)) kb hb)⟩
theorem HeldS.less {ps' : List (Addr × List V)} (h : HeldS K sc ns q f c' ob qn ps es c l H) (s : ∀ p ∈ ps', p ∈ ps) : HeldS K sc ns q f c' ob qn ps' es c l H := ⟨h.1.less s, h.2⟩
theorem heldS_ex (h : HeldS K sc ns q f c' ob qn ps es c l H) : ∃ ob' qn', ob' = ob ∧ qn' = qn ∧ HeldS K sc ns q f c' ob' qn' ps es c l H := ⟨_, _, rfl, rfl, h⟩
end
end Ord
namespace Ord
open PySem PySem.Spec PyProof.Rows L2 LamX
theorem AskLog.clr {f q c' : Addr} {pm ctv : Value} {qn : Str} {params : Arguments} {body : Expr} {scope : Scope} {cl : List (Str × Addr)} {fr : List Str} {ws : List (Option V)} {l : Lg} {H : Hp} (h : AskLog f q c' pm ctv qn params body scope cl fr ws l H) :
    ∃ qs, H q = some (.lst qs) ∧ LogAt H qs l ∧ AskLog f q c' pm ctv qn params body scope cl fr ws [] (upd H q (.lst [])) := by
  obtain ⟨h1, h2, h3, qs, h4, h5⟩ := h
  have fq : f ≠ q := fun z => by
    rw [z, h4] at h1
    cases h1
  have cq : c' ≠ q := code_ne h4 h2
  refine ⟨qs, h4, h5, (upd_ne fq).trans h1, (upd_ne cq).trans h2, ⟨h3.len, fun b hb => ?_, h3.inj, fun i y e => ?_⟩, [], upd_same, .nil⟩
  · obtain ⟨ob, v, e, r⟩ := h3.all b hb
    exact ⟨ob, v, (upd_ne fun z => lst_nfz h4 ob (by rw [← z]; exact e)).trans e, r⟩
  · obtain ⟨cl, hc1, hv⟩ := h3.has i y e
    refine ⟨cl, hc1, fun v ev => ?_⟩
    obtain ⟨ob, u, e, r⟩ := hv v ev
    exact ⟨ob, u, (upd_ne fun z => lst_nfz h4 ob (by rw [← z]; exact e)).trans e, r⟩
end Ord
namespace Ord
open PySem PySem.Spec PyProof.Rows L2 LamX
section
variable {P : Program} {w : World} {K : PySem.W.Frag} {mg : Str → Option Value} {base : Heap}
/-- the log may be cleared -/
def Orc.Clr (O : Orc P w K mg base) : Prop := ∀ l H, O.Log l H → ∃ qs, H O.q = some (.lst qs) ∧ LogAt H qs l ∧ O.Log [] (upd H O.q (.lst []))
/-- all pairs may be asked of -/
def Orc.DomE (O : Orc P w K mg base) : Prop := ∀ x H, El (cnt H) x H → O.Dom x H
theorem KB.wrq {q : Addr} {H : Hp} {ys zs : List V} (e : H q = some (.lst ys)) : KB q H (upd H q (.lst zs)) :=
  ⟨fun b o n h => by rw [upd_ne n]; exact h, TK.wr e nf_lst⟩
end
end Ord

/-! What the defs of yourorder.rows compute, over any answers. -/
namespace Mir
section
variable {α : Type}
abbrev Ans (α : Type) := List (α × α) → α → α → Int
def mrg (ans : Ans α) : List α → List α → List (α × α) → List α × List (α × α)
  | [], ys, l => (ys, l)
  | x :: xs, [], l => (x :: xs, l)
  | x :: xs, y :: ys, l =>
    if ans l x y ≤ 0 then (x :: (mrg ans xs (y :: ys) (l ++ [(x, y)])).1, (mrg ans xs (y :: ys) (l ++ [(x, y)])).2)
    else (y :: (mrg ans (x :: xs) ys (l ++ [(x, y)])).1, (mrg ans (x :: xs) ys (l ++ [(x, y)])).2)
termination_by xs ys => xs.length + ys.length
theorem mrg_nil (ans : Ans α) (ys : List α) (l : List (α × α)) : mrg ans [] ys l = (ys, l) := by unfold mrg; rfl
theorem mrg_nil2 (ans : Ans α) (xs : List α) (l : List (α × α)) : mrg ans xs [] l = (xs, l) := by
  cases xs with
  | nil => unfold mrg; rfl
  | cons x xs => unfold mrg; rfl
theorem mrg_cons (ans : Ans α) (x y : α) (xs ys : List α) (l : List (α × α)) : mrg ans (x :: xs) (y :: ys) l =
    if ans l x y ≤ 0 then (x :: (mrg ans xs (y :: ys) (l ++ [(x, y)])).1, (mrg ans xs (y :: ys) (l ++ [(x, y)])).2)
    else (y :: (mrg ans (x :: xs) ys (l ++ [(x, y)])).1, (mrg ans (x :: xs) ys (l ++ [(x, y)])).2) := by
  rw [mrg]
theorem drop_cons {xs : List α} {i : Nat} {x : α} (e : xs[i]? = some x) : xs.drop i = x :: xs.drop (i + 1) := by
  obtain ⟨h, e⟩ := List.getElem?_eq_some_iff.mp e
  rw [← e]
  exact List.drop_eq_getElem_cons h
/-- all but the last two questions' lengths: how long what is told is -/
theorem mrg_len (ans : Ans α) : ∀ (xs ys : List α) (l : List (α × α)), (mrg ans xs ys l).1.length = xs.length + ys.length
  | [], ys, l => by rw [mrg_nil]; simp
  | x :: xs, [], l => by rw [mrg_nil2]; simp
  | x :: xs, y :: ys, l => by
    have h1 := mrg_len ans xs (y :: ys) (l ++ [(x, y)])
    have h2 := mrg_len ans (x :: xs) ys (l ++ [(x, y)])
    rw [mrg_cons]
    split
    · simp only [List.length_cons] at h1 ⊢
      omega
    · simp only [List.length_cons] at h2 ⊢
      omega
termination_by xs ys => xs.length + ys.length
def stab (ans : Ans α) (xs : List α) (l : List (α × α)) : List α × List (α × α) :=
  if h : xs.length < 2 then (xs, l)
  else
    let a := stab ans (xs.take ((xs.length + 1) / 2)) l
    let b := stab ans (xs.drop ((xs.length + 1) / 2)) a.2
    match a.1.getLast?, b.1.head? with
    | some x, some y => if ans b.2 x y ≤ 0 then (a.1 ++ b.1, b.2 ++ [(x, y)]) else mrg ans a.1 b.1 (b.2 ++ [(x, y)])
    | _, _ => (a.1 ++ b.1, b.2)
termination_by xs.length
decreasing_by
  · rw [List.length_take]; omega
  · rw [List.length_drop]; omega
theorem mrg_mem (ans : Ans α) : ∀ (xs ys : List α) (l : List (α × α)) (z : α), z ∈ (mrg ans xs ys l).1 → z ∈ xs ∨ z ∈ ys
  | [], ys, l, z, h => by rw [mrg_nil] at h; exact .inr h
  | x :: xs, [], l, z, h => by rw [mrg_nil2] at h; exact .inl h
  | x :: xs, y :: ys, l, z, h => by
    have h1 := mrg_mem ans xs (y :: ys) (l ++ [(x, y)]) z
    have h2 := mrg_mem ans (x :: xs) ys (l ++ [(x, y)]) z
    rw [mrg_cons] at h
    split at h
    · rcases List.mem_cons.mp h with e | e
      · exact .inl (List.mem_cons.mpr (.inl e))
      · rcases h1 e with q | q
        · exact .inl (List.mem_cons_of_mem _ q)
        · exact .inr q
    · rcases List.mem_cons.mp h with e | e
      · exact .inr (List.mem_cons.mpr (.inl e))
      · rcases h2 e with q | q
        · exact .inl q
        · exact .inr (List.mem_cons_of_mem _ q)
termination_by xs ys => xs.length + ys.length
theorem stab_small (ans : Ans α) {xs : List α} (l : List (α × α)) (h : xs.length < 2) : stab ans xs l = (xs, l) := by
  rw [stab, dif_pos h]
theorem stab_big (ans : Ans α) {xs : List α} (l : List (α × α)) (h : ¬ xs.length < 2) : stab ans xs l =
    match (stab ans (xs.take ((xs.length + 1) / 2)) l).1.getLast?, (stab ans (xs.drop ((xs.length + 1) / 2)) (stab ans (xs.take ((xs.length + 1) / 2)) l).2).1.head? with
    | some x, some y => if ans (stab ans (xs.drop ((xs.length + 1) / 2)) (stab ans (xs.take ((xs.length + 1) / 2)) l).2).2 x y ≤ 0 then ((stab ans (xs.take ((xs.length + 1) / 2)) l).1 ++ (stab ans (xs.drop ((xs.length + 1) / 2)) (stab ans (xs.take ((xs.length + 1) / 2)) l).2).1, (stab ans (xs.drop ((xs.length + 1) / 2)) (stab ans (xs.take ((xs.length + 1) / 2)) l).2).2 ++ [(x, y)])
      else mrg ans (stab ans (xs.take ((xs.length + 1) / 2)) l).1 (stab ans (xs.drop ((xs.length + 1) / 2)) (stab ans (xs.take ((xs.length + 1) / 2)) l).2).1 ((stab ans (xs.drop ((xs.length + 1) / 2)) (stab ans (xs.take ((xs.length + 1) / 2)) l).2).2 ++ [(x, y)])
    | _, _ => ((stab ans (xs.take ((xs.length + 1) / 2)) l).1 ++ (stab ans (xs.drop ((xs.length + 1) / 2)) (stab ans (xs.take ((xs.length + 1) / 2)) l).2).1, (stab ans (xs.drop ((xs.length + 1) / 2)) (stab ans (xs.take ((xs.length + 1) / 2)) l).2).2) := by
  rw [stab, dif_neg h]
/-- the step by what the halves give -/
theorem stab_step (ans : Ans α) {xs : List α} (l : List (α × α)) (h : ¬ xs.length < 2) {a b : List α × List (α × α)} (ea : stab ans (xs.take ((xs.length + 1) / 2)) l = a) (eb : stab ans (xs.drop ((xs.length + 1) / 2)) a.2 = b) {x y : α} (ex : a.1.getLast? = some x) (ey : b.1.head? = some y) :
    stab ans xs l = if ans b.2 x y ≤ 0 then (a.1 ++ b.1, b.2 ++ [(x, y)]) else mrg ans a.1 b.1 (b.2 ++ [(x, y)]) := by
  rw [stab_big ans l h, ea, eb, ex, ey]
theorem stab_len (ans : Ans α) (n : Nat) : ∀ (xs : List α) (l : List (α × α)), xs.length ≤ n → (stab ans xs l).1.length = xs.length := by
  induction n with
  | zero => intro xs l h; rw [stab_small ans l (by omega)]
  | succ n ih =>
    intro xs l h
    by_cases h2 : xs.length < 2
    · rw [stab_small ans l h2]
    · have t1 : (xs.take ((xs.length + 1) / 2)).length = (xs.length + 1) / 2 := by rw [List.length_take]; omega
      have t2 : (xs.drop ((xs.length + 1) / 2)).length = xs.length - (xs.length + 1) / 2 := List.length_drop
      have i1 := ih (xs.take ((xs.length + 1) / 2)) l (by omega)
      have i2 := ih (xs.drop ((xs.length + 1) / 2)) (stab ans (xs.take ((xs.length + 1) / 2)) l).2 (by omega)
      obtain ⟨x, ex⟩ : ∃ x, (stab ans (xs.take ((xs.length + 1) / 2)) l).1.getLast? = some x := by
        rw [List.getLast?_eq_getElem?]
        exact ⟨_, List.getElem?_eq_getElem (by omega)⟩
      obtain ⟨y, ey⟩ : ∃ y, (stab ans (xs.drop ((xs.length + 1) / 2)) (stab ans (xs.take ((xs.length + 1) / 2)) l).2).1.head? = some y := by
        rw [List.head?_eq_getElem?]
        exact ⟨_, List.getElem?_eq_getElem (by omega)⟩
      rw [stab_step ans l h2 rfl rfl ex ey]
      split
      · rw [List.length_append]; omega
      · rw [mrg_len]; omega
theorem stab_mem (ans : Ans α) (n : Nat) : ∀ (xs : List α) (l : List (α × α)) (z : α), xs.length ≤ n → z ∈ (stab ans xs l).1 → z ∈ xs := by
  induction n with
  | zero => intro xs l z h hz; rw [stab_small ans l (by omega)] at hz; exact hz
  | succ n ih =>
    intro xs l z h hz
    by_cases h2 : xs.length < 2
    · rw [stab_small ans l h2] at hz; exact hz
    · have t1 : (xs.take ((xs.length + 1) / 2)).length = (xs.length + 1) / 2 := by rw [List.length_take]; omega
      have t2 : (xs.drop ((xs.length + 1) / 2)).length = xs.length - (xs.length + 1) / 2 := List.length_drop
      have l1 := stab_len ans n (xs.take ((xs.length + 1) / 2)) l (by omega)
      have l2 := stab_len ans n (xs.drop ((xs.length + 1) / 2)) (stab ans (xs.take ((xs.length + 1) / 2)) l).2 (by omega)
      have i1 := ih (xs.take ((xs.length + 1) / 2)) l z (by omega)
      have i2 := ih (xs.drop ((xs.length + 1) / 2)) (stab ans (xs.take ((xs.length + 1) / 2)) l).2 z (by omega)
      have key : z ∈ (stab ans (xs.take ((xs.length + 1) / 2)) l).1 ∨ z ∈ (stab ans (xs.drop ((xs.length + 1) / 2)) (stab ans (xs.take ((xs.length + 1) / 2)) l).2).1 → z ∈ xs := fun q => q.elim (fun q => List.mem_of_mem_take (i1 q)) fun q => List.mem_of_mem_drop (i2 q)
      obtain ⟨x, ex⟩ : ∃ x, (stab ans (xs.take ((xs.length + 1) / 2)) l).1.getLast? = some x := by
        rw [List.getLast?_eq_getElem?]
        exact ⟨_, List.getElem?_eq_getElem (by omega)⟩
      obtain ⟨y, ey⟩ : ∃ y, (stab ans (xs.drop ((xs.length + 1) / 2)) (stab ans (xs.take ((xs.length + 1) / 2)) l).2).1.head? = some y := by
        rw [List.head?_eq_getElem?]
        exact ⟨_, List.getElem?_eq_getElem (by omega)⟩
      rw [stab_step ans l h2 rfl rfl ex ey] at hz
      split at hz
      · exact key (List.mem_append.mp hz)
      · exact key (mrg_mem ans _ _ _ z hz)
theorem mrg_cnt (ans : Ans α) : ∀ (xs ys : List α) (l : List (α × α)), l.length ≤ (mrg ans xs ys l).2.length ∧ (mrg ans xs ys l).2.length ≤ l.length + (xs.length + ys.length - 1) ∧ ((xs = [] ∨ ys = []) → (mrg ans xs ys l).2 = l)
  | [], ys, l => by rw [mrg_nil]; exact ⟨Nat.le_refl _, Nat.le_add_right _ _, fun _ => rfl⟩
  | x :: xs, [], l => by rw [mrg_nil2]; exact ⟨Nat.le_refl _, Nat.le_add_right _ _, fun _ => rfl⟩
  | x :: xs, y :: ys, l => by
    have h1 := mrg_cnt ans xs (y :: ys) (l ++ [(x, y)])
    have h2 := mrg_cnt ans (x :: xs) ys (l ++ [(x, y)])
    rw [mrg_cons]
    split
    · simp only [List.length_append, List.length_cons, List.length_nil] at h1 ⊢
      refine ⟨by omega, by omega, fun h => ?_⟩
      rcases h with h | h <;> cases h
    · simp only [List.length_append, List.length_cons, List.length_nil] at h2 ⊢
      refine ⟨by omega, by omega, fun h => ?_⟩
      rcases h with h | h <;> cases h
termination_by xs ys => xs.length + ys.length
theorem clog_half {n : Nat} (h : ¬ n < 2) : clog n = clog ((n + 1) / 2) + 1 := by
  rw [clog, if_neg (by omega)]
theorem stab_cnt (ans : Ans α) (n : Nat) : ∀ (xs : List α) (l : List (α × α)), xs.length ≤ n → l.length ≤ (stab ans xs l).2.length ∧ (stab ans xs l).2.length ≤ l.length + xs.length * clog xs.length := by
  induction n with
  | zero => intro xs l h; rw [stab_small ans l (by omega)]; exact ⟨Nat.le_refl _, Nat.le_add_right _ _⟩
  | succ n ih =>
    intro xs l h
    by_cases h2 : xs.length < 2
    · rw [stab_small ans l h2]; exact ⟨Nat.le_refl _, Nat.le_add_right _ _⟩
    · have t1 : (xs.take ((xs.length + 1) / 2)).length = (xs.length + 1) / 2 := by rw [List.length_take]; omega
      have t2 : (xs.drop ((xs.length + 1) / 2)).length = xs.length - (xs.length + 1) / 2 := List.length_drop
      have i1 := ih (xs.take ((xs.length + 1) / 2)) l (by omega)
      have i2 := ih (xs.drop ((xs.length + 1) / 2)) (stab ans (xs.take ((xs.length + 1) / 2)) l).2 (by omega)
      have l1 := stab_len ans n (xs.take ((xs.length + 1) / 2)) l (by omega)
      have l2 := stab_len ans n (xs.drop ((xs.length + 1) / 2)) (stab ans (xs.take ((xs.length + 1) / 2)) l).2 (by omega)
      rw [t1] at i1 l1
      rw [t2] at i2 l2
      obtain ⟨c, ec⟩ : ∃ c, c = clog ((xs.length + 1) / 2) := ⟨_, rfl⟩
      have m2 : clog (xs.length - (xs.length + 1) / 2) ≤ c := by rw [ec]; exact clog_mono (by omega)
      have m3 := Nat.mul_le_mul_left (xs.length - (xs.length + 1) / 2) m2
      have m4 : (xs.length + 1) / 2 * c + (xs.length - (xs.length + 1) / 2) * c = xs.length * c := by
        rw [← Nat.add_mul]
        congr 1
        omega
      have m5 : xs.length * (c + 1) = xs.length * c + xs.length := Nat.mul_succ _ _
      rw [clog_half h2, ← ec, m5]
      rw [← ec] at i1
      obtain ⟨x, ex⟩ : ∃ x, (stab ans (xs.take ((xs.length + 1) / 2)) l).1.getLast? = some x := by
        rw [List.getLast?_eq_getElem?]
        exact ⟨_, List.getElem?_eq_getElem (by omega)⟩
      obtain ⟨y, ey⟩ : ∃ y, (stab ans (xs.drop ((xs.length + 1) / 2)) (stab ans (xs.take ((xs.length + 1) / 2)) l).2).1.head? = some y := by
        rw [List.head?_eq_getElem?]
        exact ⟨_, List.getElem?_eq_getElem (by omega)⟩
      rw [stab_step ans l h2 rfl rfl ex ey]
      split
      · rw [List.length_append, List.length_singleton]
        omega
      · have q := mrg_cnt ans (stab ans (xs.take ((xs.length + 1) / 2)) l).1 (stab ans (xs.drop ((xs.length + 1) / 2)) (stab ans (xs.take ((xs.length + 1) / 2)) l).2).1 ((stab ans (xs.drop ((xs.length + 1) / 2)) (stab ans (xs.take ((xs.length + 1) / 2)) l).2).2 ++ [(x, y)])
        rw [l1, l2, List.length_append, List.length_singleton] at q
        omega
end
end Mir

/-! Sorting by a key: what stands in the stable order. -/
namespace Mir
section
variable {α : Type}
/-- in order by a key -/
abbrev Srt (key : α → Int) (xs : List α) : Prop := xs.Pairwise fun a b => key a ≤ key b
/-- those of a key -/
def ofK (key : α → Int) (k : Int) (xs : List α) : List α := xs.filter fun x => decide (key x = k)
theorem ofK_nil (key : α → Int) (k : Int) : ofK key k ([] : List α) = [] := rfl
theorem ofK_cons (key : α → Int) (k : Int) (x : α) (xs : List α) : ofK key k (x :: xs) = if key x = k then x :: ofK key k xs else ofK key k xs := by
  unfold ofK
  rw [List.filter_cons]
  by_cases h : key x = k
  · simp [h]
  · simp [h]
theorem ofK_append (key : α → Int) (k : Int) (xs ys : List α) : ofK key k (xs ++ ys) = ofK key k xs ++ ofK key k ys := by unfold ofK; exact List.filter_append _ _
theorem ofK_none {key : α → Int} {k : Int} {xs : List α} (h : ∀ x ∈ xs, key x ≠ k) : ofK key k xs = [] := by
  unfold ofK
  rw [List.filter_eq_nil_iff]
  intro x hx
  simp [h x hx]
theorem sort_uniq (key : α → Int) : ∀ (xs ys : List α), Srt key xs → Srt key ys → (∀ k, ofK key k xs = ofK key k ys) → xs = ys
  | [], [], _, _, _ => rfl
  | [], y :: ys, _, _, h => by
    have e := h (key y)
    rw [ofK_nil, ofK_cons, if_pos rfl] at e
    cases e
  | x :: xs, [], _, _, h => by
    have e := h (key x)
    rw [ofK_nil, ofK_cons, if_pos rfl] at e
    cases e
  | x :: xs, y :: ys, hx, hy, h => by
    obtain ⟨x1, x2⟩ := List.pairwise_cons.mp hx
    obtain ⟨y1, y2⟩ := List.pairwise_cons.mp hy
    have hk : key x = key y := by
      rcases Int.lt_trichotomy (key x) (key y) with c | c | c
      · have e := h (key x)
        rw [ofK_cons, if_pos rfl, ofK_none (xs := y :: ys) (fun z hz => by
          rcases List.mem_cons.mp hz with q | q
          · rw [q]; omega
          · have := y1 z q; omega)] at e
        cases e
      · exact c
      · have e := h (key y)
        rw [ofK_cons key _ y, if_pos rfl, ofK_none (xs := x :: xs) (fun z hz => by
          rcases List.mem_cons.mp hz with q | q
          · rw [q]; omega
          · have := x1 z q; omega)] at e
        cases e
    have e := h (key x)
    rw [ofK_cons, ofK_cons, if_pos rfl, if_pos hk.symm] at e
    injection e with e1 e2
    subst e1
    rw [sort_uniq key xs ys x2 y2 fun k => ?_]
    have e := h k
    rw [ofK_cons, ofK_cons] at e
    by_cases q : key x = k
    · rw [if_pos q, if_pos q] at e
      injection e
    · rw [if_neg q, if_neg q] at e
      exact e
variable {ans : Ans α} {key : α → Int}
theorem mrg_srt (A : KeyA ans key) : ∀ (xs ys : List α) (l : List (α × α)), Srt key xs → Srt key ys → Srt key (mrg ans xs ys l).1 ∧ ∀ k, ofK key k (mrg ans xs ys l).1 = ofK key k xs ++ ofK key k ys
  | [], ys, l, hx, hy => by rw [mrg_nil]; exact ⟨hy, fun k => rfl⟩
  | x :: xs, [], l, hx, hy => by rw [mrg_nil2]; exact ⟨hx, fun k => (List.append_nil _).symm⟩
  | x :: xs, y :: ys, l, hx, hy => by
    obtain ⟨x1, x2⟩ := List.pairwise_cons.mp hx
    obtain ⟨y1, y2⟩ := List.pairwise_cons.mp hy
    rw [mrg_cons]
    split
    · rename_i q
      have q := (A.le _ _ _).mp q
      obtain ⟨i1, i2⟩ := mrg_srt A xs (y :: ys) (l ++ [(x, y)]) x2 hy
      refine ⟨List.pairwise_cons.mpr ⟨fun z hz => ?_, i1⟩, fun k => ?_⟩
      · rcases mrg_mem ans _ _ _ z hz with m | m
        · exact x1 z m
        · rcases List.mem_cons.mp m with m | m
          · rw [m]; exact q
          · have := y1 z m; omega
      · show ofK key k (x :: _) = _
        rw [ofK_cons, ofK_cons, i2 k]
        split <;> rfl
    · rename_i q
      have q : key y < key x := by
        have := A.le l x y
        omega
      obtain ⟨i1, i2⟩ := mrg_srt A (x :: xs) ys (l ++ [(x, y)]) hx y2
      refine ⟨List.pairwise_cons.mpr ⟨fun z hz => ?_, i1⟩, fun k => ?_⟩
      · rcases mrg_mem ans _ _ _ z hz with m | m
        · rcases List.mem_cons.mp m with m | m
          · rw [m]; omega
          · have := x1 z m; omega
        · exact y1 z m
      · show ofK key k (y :: _) = _
        rw [ofK_cons, i2 k, ofK_cons key k y ys]
        split
        · rename_i e
          rw [ofK_none (xs := x :: xs) (fun z hz => by
            rcases List.mem_cons.mp hz with m | m
            · rw [m]; omega
            · have := x1 z m; omega)]
          rfl
        · rfl
termination_by xs ys => xs.length + ys.length
theorem srt_append {xs ys : List α} {x y : α} (hx : Srt key xs) (hy : Srt key ys) (ex : xs.getLast? = some x) (ey : ys.head? = some y) (h : key x ≤ key y) : Srt key (xs ++ ys) := by
  refine List.pairwise_append.mpr ⟨hx, hy, fun a ha b hb => ?_⟩
  obtain ⟨r, er⟩ := List.getLast?_eq_some_iff.mp ex
  have h1 : key a ≤ key x := by
    rw [er] at ha hx
    rcases List.mem_append.mp ha with m | m
    · exact (List.pairwise_append.mp hx).2.2 a m x (List.mem_singleton.mpr rfl)
    · rw [List.mem_singleton.mp m]; omega
  have h2 : key y ≤ key b := by
    cases ys with
    | nil => cases hb
    | cons z zs =>
      have : z = y := Option.some.inj ey
      subst this
      rcases List.mem_cons.mp hb with m | m
      · rw [m]; omega
      · exact (List.pairwise_cons.mp hy).1 b m
  omega
theorem stab_srt (A : KeyA ans key) (n : Nat) : ∀ (xs : List α) (l : List (α × α)), xs.length ≤ n → Srt key (stab ans xs l).1 ∧ ∀ k, ofK key k (stab ans xs l).1 = ofK key k xs := by
  induction n with
  | zero =>
    intro xs l h
    have e : xs = [] := List.length_eq_zero_iff.mp (by omega)
    subst e
    rw [stab_small ans l (by simp)]
    exact ⟨List.Pairwise.nil, fun k => rfl⟩
  | succ n ih =>
    intro xs l h
    by_cases h2 : xs.length < 2
    · rw [stab_small ans l h2]
      refine ⟨?_, fun k => rfl⟩
      cases xs with
      | nil => exact List.Pairwise.nil
      | cons x r =>
        cases r with
        | nil => exact List.pairwise_singleton _ _
        | cons y s => exact absurd h2 (by simp)
    · have t1 : (xs.take ((xs.length + 1) / 2)).length = (xs.length + 1) / 2 := by rw [List.length_take]; omega
      have t2 : (xs.drop ((xs.length + 1) / 2)).length = xs.length - (xs.length + 1) / 2 := List.length_drop
      obtain ⟨i1, i2⟩ := ih (xs.take ((xs.length + 1) / 2)) l (by omega)
      obtain ⟨j1, j2⟩ := ih (xs.drop ((xs.length + 1) / 2)) (stab ans (xs.take ((xs.length + 1) / 2)) l).2 (by omega)
      have l1 := stab_len ans n (xs.take ((xs.length + 1) / 2)) l (by omega)
      have l2 := stab_len ans n (xs.drop ((xs.length + 1) / 2)) (stab ans (xs.take ((xs.length + 1) / 2)) l).2 (by omega)
      have both : ∀ k, ofK key k (xs.take ((xs.length + 1) / 2)) ++ ofK key k (xs.drop ((xs.length + 1) / 2)) = ofK key k xs := fun k => by
        rw [← ofK_append, List.take_append_drop]
      obtain ⟨x, ex⟩ : ∃ x, (stab ans (xs.take ((xs.length + 1) / 2)) l).1.getLast? = some x := by
        rw [List.getLast?_eq_getElem?]
        exact ⟨_, List.getElem?_eq_getElem (by omega)⟩
      obtain ⟨y, ey⟩ : ∃ y, (stab ans (xs.drop ((xs.length + 1) / 2)) (stab ans (xs.take ((xs.length + 1) / 2)) l).2).1.head? = some y := by
        rw [List.head?_eq_getElem?]
        exact ⟨_, List.getElem?_eq_getElem (by omega)⟩
      rw [stab_step ans l h2 rfl rfl ex ey]
      split
      · rename_i q
        refine ⟨srt_append i1 j1 ex ey ((A.le _ _ _).mp q), fun k => ?_⟩
        show ofK key k (_ ++ _) = _
        rw [ofK_append, i2, j2, both]
      · obtain ⟨m1, m2⟩ := mrg_srt A _ _ ((stab ans (xs.drop ((xs.length + 1) / 2)) (stab ans (xs.take ((xs.length + 1) / 2)) l).2).2 ++ [(x, y)]) i1 j1
        exact ⟨m1, fun k => by rw [m2, i2, j2, both]⟩
/-! ### insertion -/
theorem plc_spec (key : α → Int) (made : List α) (e : α) : ∀ n, n ≤ made.length → (∀ j z, plc key made e n ≤ j → j < n → made[j]? = some z → key e < key z) ∧ (0 < plc key made e n → ∃ z, made[plc key made e n - 1]? = some z ∧ key z ≤ key e)
  | 0, _ => ⟨fun j z _ h => absurd h (Nat.not_lt_zero j), fun h => by rw [plc_zero] at h; omega⟩
  | n + 1, h => by
    obtain ⟨i1, i2⟩ := plc_spec key made e n (by omega)
    obtain ⟨z, hz⟩ : ∃ z, made[n]? = some z := ⟨_, List.getElem?_eq_getElem (by omega)⟩
    by_cases q : key e < key z
    · rw [plc_lt hz q]
      refine ⟨fun j z' h1 h2 h3 => ?_, i2⟩
      by_cases hj : j < n
      · exact i1 j z' h1 hj h3
      · have : j = n := by omega
        subst this
        rw [hz] at h3
        cases h3
        exact q
    · rw [plc_ge hz q]
      exact ⟨fun j z' h1 h2 _ => by omega, fun _ => ⟨z, hz, by omega⟩⟩
theorem srt_get {xs : List α} (h : Srt key xs) {i j : Nat} {x y : α} (hij : i ≤ j) (ex : xs[i]? = some x) (ey : xs[j]? = some y) : key x ≤ key y := by
  obtain ⟨h1, e1⟩ := List.getElem?_eq_some_iff.mp ex
  obtain ⟨h2, e2⟩ := List.getElem?_eq_some_iff.mp ey
  by_cases q : i = j
  · subst q
    rw [e1] at e2
    rw [e2]
    omega
  · have := List.pairwise_iff_getElem.mp h i j h1 h2 (by omega)
    rw [e1, e2] at this
    exact this
theorem ins1_srt {made : List α} (e : α) (h : Srt key made) : Srt key (ins1 key made e) ∧ ∀ k, ofK key k (ins1 key made e) = ofK key k made ++ ofK key k [e] := by
  obtain ⟨s1, s2⟩ := plc_spec key made e made.length (Nat.le_refl _)
  have hp := plc_le key made e made.length
  obtain ⟨p, ep⟩ : ∃ p, p = plc key made e made.length := ⟨_, rfl⟩
  rw [← ep] at s1 s2 hp
  have lo : ∀ z ∈ made.take p, key z ≤ key e := fun z hz => by
    obtain ⟨i, hi⟩ := List.mem_iff_getElem?.mp hz
    have hip : i < p := by
      have := (List.getElem?_eq_some_iff.mp hi).1
      rw [List.length_take] at this
      omega
    rw [List.getElem?_take_of_lt hip] at hi
    obtain ⟨y, hy, hy2⟩ := s2 (by omega)
    have := srt_get h (show i ≤ p - 1 by omega) hi hy
    omega
  have hi : ∀ z ∈ made.drop p, key e < key z := fun z hz => by
    obtain ⟨i, hi⟩ := List.mem_iff_getElem?.mp hz
    rw [List.getElem?_drop] at hi
    exact s1 (p + i) z (by omega) (List.getElem?_eq_some_iff.mp hi).1 hi
  have ht : Srt key (made.take p) := h.sublist (List.take_sublist _ _)
  have hd : Srt key (made.drop p) := h.sublist (List.drop_sublist _ _)
  have hc : ∀ a ∈ made.take p, ∀ b ∈ made.drop p, key a ≤ key b := fun a ha b hb => by
    have := lo a ha
    have := hi b hb
    omega
  unfold ins1
  rw [← ep]
  refine ⟨?_, fun k => ?_⟩
  · refine List.pairwise_append.mpr ⟨List.pairwise_append.mpr ⟨ht, List.pairwise_singleton _ _, fun a ha b hb => ?_⟩, hd, fun a ha b hb => ?_⟩
    · rw [List.mem_singleton.mp hb]
      exact lo a ha
    · rcases List.mem_append.mp ha with m | m
      · exact hc a m b hb
      · rw [List.mem_singleton.mp m]
        have := hi b hb
        omega
  · rw [ofK_append, ofK_append]
    have e1 : ofK key k made = ofK key k (made.take p) ++ ofK key k (made.drop p) := by rw [← ofK_append, List.take_append_drop]
    rw [e1, List.append_assoc, List.append_assoc]
    congr 1
    by_cases q : key e = k
    · rw [ofK_none (xs := made.drop p) fun z hz => by have := hi z hz; omega]
      simp
    · rw [ofK_none (xs := [e]) fun z hz => by rw [List.mem_singleton.mp hz]; exact q]
      simp
theorem isort_srt (key : α → Int) (xs : List α) : Srt key (isort key xs) ∧ ∀ k, ofK key k (isort key xs) = ofK key k xs := by
  have : ∀ (ys acc : List α), Srt key acc → Srt key (ys.foldl (ins1 key) acc) ∧ ∀ k, ofK key k (ys.foldl (ins1 key) acc) = ofK key k acc ++ ofK key k ys := by
    intro ys
    induction ys with
    | nil => intro acc h; exact ⟨h, fun k => (List.append_nil _).symm⟩
    | cons y ys ih =>
      intro acc h
      obtain ⟨i1, i2⟩ := ins1_srt y h
      obtain ⟨j1, j2⟩ := ih _ i1
      rw [List.foldl_cons]
      refine ⟨j1, fun k => ?_⟩
      rw [j2, i2, List.append_assoc, ← ofK_append]
      rfl
  exact this xs [] List.Pairwise.nil
theorem isort_id {xs : List α} (h : Srt key xs) : isort key xs = xs := sort_uniq key _ _ (isort_srt key xs).1 h (isort_srt key xs).2
theorem isort_eq {xs ys : List α} (h : Srt key ys) (hk : ∀ k, ofK key k ys = ofK key k xs) : ys = isort key xs := sort_uniq key _ _ h (isort_srt key xs).1 fun k => by rw [hk, (isort_srt key xs).2]
/-- STABLE tells the stable order -/
theorem stab_isort (A : KeyA ans key) (xs : List α) (l : List (α × α)) : (stab ans xs l).1 = isort key xs := by
  obtain ⟨h1, h2⟩ := stab_srt A _ xs l (Nat.le_refl _)
  exact isort_eq h1 h2
/-- of a row in order: n - 1 questions at most -/
theorem stab_cnt_srt (A : KeyA ans key) (n : Nat) : ∀ (xs : List α) (l : List (α × α)), xs.length ≤ n → Srt key xs → (stab ans xs l).2.length ≤ l.length + (xs.length - 1) := by
  induction n with
  | zero => intro xs l h _; rw [stab_small ans l (by omega)]; exact Nat.le_add_right _ _
  | succ n ih =>
    intro xs l h hs
    by_cases h2 : xs.length < 2
    · rw [stab_small ans l h2]; exact Nat.le_add_right _ _
    · have t1 : (xs.take ((xs.length + 1) / 2)).length = (xs.length + 1) / 2 := by rw [List.length_take]; omega
      have t2 : (xs.drop ((xs.length + 1) / 2)).length = xs.length - (xs.length + 1) / 2 := List.length_drop
      have hs1 : Srt key (xs.take ((xs.length + 1) / 2)) := hs.sublist (List.take_sublist _ _)
      have hs2 : Srt key (xs.drop ((xs.length + 1) / 2)) := hs.sublist (List.drop_sublist _ _)
      have i1 := ih (xs.take ((xs.length + 1) / 2)) l (by omega) hs1
      have i2 := ih (xs.drop ((xs.length + 1) / 2)) (stab ans (xs.take ((xs.length + 1) / 2)) l).2 (by omega) hs2
      have e1 : (stab ans (xs.take ((xs.length + 1) / 2)) l).1 = xs.take ((xs.length + 1) / 2) := by rw [stab_isort A, isort_id hs1]
      have e2 : (stab ans (xs.drop ((xs.length + 1) / 2)) (stab ans (xs.take ((xs.length + 1) / 2)) l).2).1 = xs.drop ((xs.length + 1) / 2) := by rw [stab_isort A, isort_id hs2]
      obtain ⟨x, ex⟩ : ∃ x, (xs.take ((xs.length + 1) / 2)).getLast? = some x := by
        rw [List.getLast?_eq_getElem?]
        exact ⟨_, List.getElem?_eq_getElem (by omega)⟩
      obtain ⟨y, ey⟩ : ∃ y, (xs.drop ((xs.length + 1) / 2)).head? = some y := by
        rw [List.head?_eq_getElem?]
        exact ⟨_, List.getElem?_eq_getElem (by omega)⟩
      have hxy : key x ≤ key y := by
        have mx : x ∈ xs.take ((xs.length + 1) / 2) := List.mem_of_getLast? ex
        have my : y ∈ xs.drop ((xs.length + 1) / 2) := by
          rw [List.head?_eq_getElem?] at ey
          exact List.mem_of_getElem? ey
        have hs' := hs
        rw [← List.take_append_drop ((xs.length + 1) / 2) xs] at hs'
        exact (List.pairwise_append.mp hs').2.2 x mx y my
      rw [stab_step ans l h2 rfl rfl (by rw [e1]; exact ex) (by rw [e2]; exact ey), if_pos ((A.le _ _ _).mpr hxy), List.length_append, List.length_singleton]
      rw [t1] at i1
      rw [t2] at i2
      omega
/-! ### what is asked of -/
/-- the log grew by questions of P -/
def Grew (P : α × α → Prop) (l l' : List (α × α)) : Prop := ∃ m, l' = l ++ m ∧ ∀ z ∈ m, P z
theorem Grew.refl (P : α × α → Prop) (l : List (α × α)) : Grew P l l := ⟨[], (List.append_nil _).symm, fun z h => by cases h⟩
theorem Grew.trans {P : α × α → Prop} {l l1 l2 : List (α × α)} (a : Grew P l l1) (b : Grew P l1 l2) : Grew P l l2 := by
  obtain ⟨m, e, h⟩ := a
  obtain ⟨n, f, g⟩ := b
  refine ⟨m ++ n, by rw [f, e, List.append_assoc], fun z hz => ?_⟩
  rcases List.mem_append.mp hz with q | q
  · exact h z q
  · exact g z q
theorem Grew.mono {P Q : α × α → Prop} {l l' : List (α × α)} (a : Grew P l l') (h : ∀ z, P z → Q z) : Grew Q l l' := by
  obtain ⟨m, e, g⟩ := a
  exact ⟨m, e, fun z hz => h z (g z hz)⟩
theorem Grew.one {P : α × α → Prop} {l : List (α × α)} {z : α × α} (h : P z) : Grew P l (l ++ [z]) := ⟨[z], rfl, fun y hy => by rw [List.mem_singleton.mp hy]; exact h⟩
theorem Grew.of_nil {P : α × α → Prop} {l : List (α × α)} (a : Grew P [] l) : ∀ z ∈ l, P z := by
  obtain ⟨m, e, h⟩ := a
  rw [e]
  simpa using h
theorem mrg_grew (ans : Ans α) : ∀ (xs ys : List α) (l : List (α × α)), Grew (fun z => z.1 ∈ xs ∧ z.2 ∈ ys) l (mrg ans xs ys l).2
  | [], ys, l => by rw [mrg_nil]; exact .refl _ _
  | x :: xs, [], l => by rw [mrg_nil2]; exact .refl _ _
  | x :: xs, y :: ys, l => by
    have h1 := mrg_grew ans xs (y :: ys) (l ++ [(x, y)])
    have h2 := mrg_grew ans (x :: xs) ys (l ++ [(x, y)])
    rw [mrg_cons]
    split
    · exact (Grew.one ⟨List.mem_cons_self, List.mem_cons_self⟩).trans (h1.mono fun z h => ⟨List.mem_cons_of_mem _ h.1, h.2⟩)
    · exact (Grew.one ⟨List.mem_cons_self, List.mem_cons_self⟩).trans (h2.mono fun z h => ⟨h.1, List.mem_cons_of_mem _ h.2⟩)
termination_by xs ys => xs.length + ys.length
theorem stab_grew (ans : Ans α) (n : Nat) : ∀ (xs : List α) (l : List (α × α)), xs.length ≤ n → Grew (fun z => z.1 ∈ xs ∧ z.2 ∈ xs) l (stab ans xs l).2 := by
  induction n with
  | zero => intro xs l h; rw [stab_small ans l (by omega)]; exact .refl _ _
  | succ n ih =>
    intro xs l h
    by_cases h2 : xs.length < 2
    · rw [stab_small ans l h2]; exact .refl _ _
    · have t1 : (xs.take ((xs.length + 1) / 2)).length = (xs.length + 1) / 2 := by rw [List.length_take]; omega
      have t2 : (xs.drop ((xs.length + 1) / 2)).length = xs.length - (xs.length + 1) / 2 := List.length_drop
      have i1 := ih (xs.take ((xs.length + 1) / 2)) l (by omega)
      have i2 := ih (xs.drop ((xs.length + 1) / 2)) (stab ans (xs.take ((xs.length + 1) / 2)) l).2 (by omega)
      have l1 := stab_len ans n (xs.take ((xs.length + 1) / 2)) l (by omega)
      have l2 := stab_len ans n (xs.drop ((xs.length + 1) / 2)) (stab ans (xs.take ((xs.length + 1) / 2)) l).2 (by omega)
      have m1 : ∀ z, z ∈ (stab ans (xs.take ((xs.length + 1) / 2)) l).1 → z ∈ xs := fun z hz => List.mem_of_mem_take (stab_mem ans _ _ _ z (Nat.le_refl _) hz)
      have m2 : ∀ z, z ∈ (stab ans (xs.drop ((xs.length + 1) / 2)) (stab ans (xs.take ((xs.length + 1) / 2)) l).2).1 → z ∈ xs := fun z hz => List.mem_of_mem_drop (stab_mem ans _ _ _ z (Nat.le_refl _) hz)
      have g12 : Grew (fun z => z.1 ∈ xs ∧ z.2 ∈ xs) l (stab ans (xs.drop ((xs.length + 1) / 2)) (stab ans (xs.take ((xs.length + 1) / 2)) l).2).2 :=
        (i1.mono fun z h => ⟨List.mem_of_mem_take h.1, List.mem_of_mem_take h.2⟩).trans (i2.mono fun z h => ⟨List.mem_of_mem_drop h.1, List.mem_of_mem_drop h.2⟩)
      obtain ⟨x, ex⟩ : ∃ x, (stab ans (xs.take ((xs.length + 1) / 2)) l).1.getLast? = some x := by
        rw [List.getLast?_eq_getElem?]
        exact ⟨_, List.getElem?_eq_getElem (by omega)⟩
      obtain ⟨y, ey⟩ : ∃ y, (stab ans (xs.drop ((xs.length + 1) / 2)) (stab ans (xs.take ((xs.length + 1) / 2)) l).2).1.head? = some y := by
        rw [List.head?_eq_getElem?]
        exact ⟨_, List.getElem?_eq_getElem (by omega)⟩
      have g3 := g12.trans (Grew.one (z := (x, y)) ⟨m1 x (List.mem_of_getLast? ex), m2 y (by rw [List.head?_eq_getElem?] at ey; exact List.mem_of_getElem? ey)⟩)
      rw [stab_step ans l h2 rfl rfl ex ey]
      split
      · exact g3
      · exact g3.trans ((mrg_grew ans _ _ _).mono fun z h => ⟨m1 _ h.1, m2 _ h.2⟩)
end
end Mir
namespace Mir
section
variable {α β : Type}
theorem srt_of_keys {key : α → Int} {xs ys : List α} (h : Srt key xs) (e : xs.map key = ys.map key) : Srt key ys := by
  have h1 : (xs.map key).Pairwise (· ≤ ·) := List.pairwise_map.mpr h
  rw [e] at h1
  exact List.pairwise_map.mp h1
theorem srt_of_map {c : α → β} {k : β → Int} {xs ys : List α} (h : Srt (fun x => k (c x)) xs) (e : xs.map c = ys.map c) : Srt (fun x => k (c x)) ys := by
  refine srt_of_keys h ?_
  have e2 := congrArg (List.map k) e
  rw [List.map_map, List.map_map] at e2
  exact e2
end
end Mir
namespace Mir
section
variable {α : Type}
theorem Srt.congr {k1 k2 : α → Int} {xs : List α} (h : Srt k1 xs) (e : ∀ x ∈ xs, k1 x = k2 x) : Srt k2 xs := by
  refine srt_of_keys (key := k2) (xs := xs) ?_ rfl
  have h1 : (xs.map k1).Pairwise (· ≤ ·) := List.pairwise_map.mpr h
  rw [List.map_congr_left e] at h1
  exact List.pairwise_map.mp h1
end
end Mir

/-! counted: the pairs out of order, counted while two rows are merged. -/
namespace Mir
section
variable {α : Type}
/-- what a merge counts -/
def mcn (ans : Ans α) : List α → List α → List (α × α) → Nat
  | [], _, _ => 0
  | _ :: _, [], _ => 0
  | x :: xs, y :: ys, l => if ans l x y ≤ 0 then mcn ans xs (y :: ys) (l ++ [(x, y)]) else mcn ans (x :: xs) ys (l ++ [(x, y)]) + (xs.length + 1)
termination_by xs ys => xs.length + ys.length
theorem mcn_nil (ans : Ans α) (ys : List α) (l : List (α × α)) : mcn ans [] ys l = 0 := by unfold mcn; rfl
theorem mcn_nil2 (ans : Ans α) (xs : List α) (l : List (α × α)) : mcn ans xs [] l = 0 := by
  cases xs with
  | nil => unfold mcn; rfl
  | cons x xs => unfold mcn; rfl
theorem mcn_cons (ans : Ans α) (x y : α) (xs ys : List α) (l : List (α × α)) : mcn ans (x :: xs) (y :: ys) l =
    if ans l x y ≤ 0 then mcn ans xs (y :: ys) (l ++ [(x, y)]) else mcn ans (x :: xs) ys (l ++ [(x, y)]) + (xs.length + 1) := by
  rw [mcn]
/-- at most all pairs -/
theorem mcn_le (ans : Ans α) : ∀ (xs ys : List α) (l : List (α × α)), mcn ans xs ys l ≤ xs.length * ys.length
  | [], ys, l => by rw [mcn_nil]; exact Nat.zero_le _
  | x :: xs, [], l => by rw [mcn_nil2]; exact Nat.zero_le _
  | x :: xs, y :: ys, l => by
    have h1 := mcn_le ans xs (y :: ys) (l ++ [(x, y)])
    have h2 := mcn_le ans (x :: xs) ys (l ++ [(x, y)])
    rw [mcn_cons]
    simp only [List.length_cons] at h1 h2 ⊢
    split
    · have := Nat.add_mul xs.length 1 (ys.length + 1)
      omega
    · have := Nat.mul_add (xs.length + 1) ys.length 1
      omega
termination_by xs ys => xs.length + ys.length
def ctd (ans : Ans α) (xs : List α) (l : List (α × α)) : List α × List (α × α) × Nat :=
  if h : xs.length < 2 then (xs, l, 0)
  else
    let a := ctd ans (xs.take ((xs.length + 1) / 2)) l
    let b := ctd ans (xs.drop ((xs.length + 1) / 2)) a.2.1
    ((mrg ans a.1 b.1 b.2.1).1, (mrg ans a.1 b.1 b.2.1).2, a.2.2 + b.2.2 + mcn ans a.1 b.1 b.2.1)
termination_by xs.length
decreasing_by
  · rw [List.length_take]; omega
  · rw [List.length_drop]; omega
theorem ctd_small (ans : Ans α) {xs : List α} (l : List (α × α)) (h : xs.length < 2) : ctd ans xs l = (xs, l, 0) := by
  rw [ctd, dif_pos h]
theorem ctd_big (ans : Ans α) {xs : List α} (l : List (α × α)) (h : ¬ xs.length < 2) {a b : List α × List (α × α) × Nat} (ea : ctd ans (xs.take ((xs.length + 1) / 2)) l = a) (eb : ctd ans (xs.drop ((xs.length + 1) / 2)) a.2.1 = b) :
    ctd ans xs l = ((mrg ans a.1 b.1 b.2.1).1, (mrg ans a.1 b.1 b.2.1).2, a.2.2 + b.2.2 + mcn ans a.1 b.1 b.2.1) := by
  rw [ctd, dif_neg h, ea]
  show ((mrg ans a.1 (ctd ans (xs.drop ((xs.length + 1) / 2)) a.2.1).1 (ctd ans (xs.drop ((xs.length + 1) / 2)) a.2.1).2.1).1, _, _) = _
  rw [eb]
theorem ctd_len (ans : Ans α) (n : Nat) : ∀ (xs : List α) (l : List (α × α)), xs.length ≤ n → (ctd ans xs l).1.length = xs.length ∧ (∀ z ∈ (ctd ans xs l).1, z ∈ xs) ∧ l.length ≤ (ctd ans xs l).2.1.length ∧ (ctd ans xs l).2.1.length ≤ l.length + xs.length * clog xs.length ∧ 2 * (ctd ans xs l).2.2 ≤ xs.length * (xs.length - 1) := by
  induction n with
  | zero =>
    intro xs l h
    rw [ctd_small ans l (by omega)]
    exact ⟨rfl, fun z h => h, Nat.le_refl _, Nat.le_add_right _ _, Nat.zero_le _⟩
  | succ n ih =>
    intro xs l h
    by_cases q : xs.length < 2
    · rw [ctd_small ans l q]
      exact ⟨rfl, fun z h => h, Nat.le_refl _, Nat.le_add_right _ _, Nat.zero_le _⟩
    obtain ⟨a, ea⟩ : ∃ a, ctd ans (xs.take ((xs.length + 1) / 2)) l = a := ⟨_, rfl⟩
    obtain ⟨b, eb⟩ : ∃ b, ctd ans (xs.drop ((xs.length + 1) / 2)) a.2.1 = b := ⟨_, rfl⟩
    have lt : (xs.take ((xs.length + 1) / 2)).length = (xs.length + 1) / 2 := by rw [List.length_take]; omega
    have ld : (xs.drop ((xs.length + 1) / 2)).length = xs.length / 2 := by rw [List.length_drop]; omega
    have h1 := ih (xs.take ((xs.length + 1) / 2)) l (by omega)
    have h2 := ih (xs.drop ((xs.length + 1) / 2)) a.2.1 (by omega)
    rw [ea, lt] at h1
    rw [eb, ld] at h2
    obtain ⟨a1, a2, a3, a4, a5⟩ := h1
    obtain ⟨b1, b2, b3, b4, b5⟩ := h2
    rw [ctd_big ans l q ea eb]
    have mc := mrg_cnt ans a.1 b.1 b.2.1
    have ml := mrg_len ans a.1 b.1 b.2.1
    have mm := mcn_le ans a.1 b.1 b.2.1
    refine ⟨?_, fun z hz => ?_, ?_, ?_, ?_⟩
    · show (mrg ans a.1 b.1 b.2.1).1.length = _
      omega
    · rcases mrg_mem ans a.1 b.1 b.2.1 z hz with q | q
      · exact List.mem_of_mem_take (a2 z q)
      · exact List.mem_of_mem_drop (b2 z q)
    · show l.length ≤ (mrg ans a.1 b.1 b.2.1).2.length
      omega
    · show (mrg ans a.1 b.1 b.2.1).2.length ≤ _
      rw [clog_half q]
      have c1 : xs.length / 2 * clog (xs.length / 2) ≤ xs.length / 2 * clog ((xs.length + 1) / 2) := Nat.mul_le_mul_left _ (clog_mono (by omega))
      have c2 : (xs.length + 1) / 2 * clog ((xs.length + 1) / 2) + xs.length / 2 * clog ((xs.length + 1) / 2) = xs.length * clog ((xs.length + 1) / 2) := by
        rw [← Nat.add_mul]
        congr 1
        omega
      have c3 := Nat.mul_add xs.length (clog ((xs.length + 1) / 2)) 1
      omega
    · show 2 * (a.2.2 + b.2.2 + mcn ans a.1 b.1 b.2.1) ≤ _
      rw [a1, b1] at mm
      obtain ⟨p, hp⟩ : ∃ p, p = (xs.length + 1) / 2 := ⟨_, rfl⟩
      obtain ⟨r, hr⟩ : ∃ r, r = xs.length / 2 := ⟨_, rfl⟩
      rw [← hp] at a5 mm
      rw [← hr] at b5 mm
      have en : xs.length = p + r := by omega
      have e1 : (p + r) * (p + r - 1) = p * (p - 1) + r * (r - 1) + 2 * (p * r) := by
        obtain ⟨p', rfl⟩ : ∃ p', p = p' + 1 := ⟨p - 1, by omega⟩
        obtain ⟨r', rfl⟩ : ∃ r', r = r' + 1 := ⟨r - 1, by omega⟩
        simp only [Nat.add_sub_cancel, show p' + 1 + (r' + 1) - 1 = p' + r' + 1 by omega]
        simp only [Nat.add_mul, Nat.mul_add, Nat.one_mul, Nat.mul_one]
        rw [Nat.mul_comm r' p']
        omega
      rw [en, e1]
      omega
/-! ### the pairs out of order -/
variable {ans : Ans α} {key : α → Int}
/-- how many of a row lie above -/
def abv (key : α → Int) (xs : List α) (y : α) : Nat := (xs.filter fun x => decide (key y < key x)).length
theorem abv_nil (y : α) : abv key [] y = 0 := rfl
theorem abv_cons (x : α) (xs : List α) (y : α) : abv key (x :: xs) y = (if key y < key x then 1 else 0) + abv key xs y := by
  unfold abv
  rw [List.filter_cons]
  by_cases h : key y < key x
  · rw [if_pos (decide_eq_true h), if_pos h, List.length_cons]; omega
  · rw [if_neg (by rw [decide_eq_false h]; exact Bool.false_ne_true), if_neg h, Nat.zero_add]
theorem abv_append (xs ys : List α) (z : α) : abv key (xs ++ ys) z = abv key xs z + abv key ys z := by
  unfold abv
  rw [List.filter_append, List.length_append]
/-- the pairs across two rows -/
def crs (key : α → Int) (xs : List α) : List α → Nat
  | [] => 0
  | y :: ys => abv key xs y + crs key xs ys
theorem crs_nil (ys : List α) : crs key [] ys = 0 := by
  induction ys with
  | nil => rfl
  | cons y ys ih => rw [crs, ih]; rfl
theorem crs_append (xs ys zs : List α) : crs key xs (ys ++ zs) = crs key xs ys + crs key xs zs := by
  induction ys with
  | nil => rw [List.nil_append, crs, Nat.zero_add]
  | cons y ys ih => rw [List.cons_append, crs, crs, ih, Nat.add_assoc]
theorem crs_left (x : α) (xs ys : List α) : crs key (x :: xs) ys = crs key [x] ys + crs key xs ys := by
  induction ys with
  | nil => rfl
  | cons y ys ih =>
    rw [crs, crs, crs, ih, abv_cons, abv_cons, abv_nil]
    omega
theorem crs_low {x : α} {ys : List α} (h : ∀ y ∈ ys, key x ≤ key y) : crs key [x] ys = 0 := by
  induction ys with
  | nil => rfl
  | cons y ys ih =>
    rw [crs, abv_cons, abv_nil, if_neg (by have := h y List.mem_cons_self; omega), ih fun z hz => h z (List.mem_cons_of_mem _ hz)]
theorem abv_all {xs : List α} {y : α} (h : ∀ x ∈ xs, key y < key x) : abv key xs y = xs.length := by
  unfold abv
  rw [List.filter_eq_self.mpr fun x hx => decide_eq_true (h x hx)]
theorem mcn_crs (A : KeyA ans key) : ∀ (xs ys : List α) (l : List (α × α)), Srt key xs → Srt key ys → mcn ans xs ys l = crs key xs ys
  | [], ys, l, _, _ => by rw [mcn_nil, crs_nil]
  | x :: xs, [], l, _, _ => by rw [mcn_nil2]; rfl
  | x :: xs, y :: ys, l, hx, hy => by
    obtain ⟨x1, x2⟩ := List.pairwise_cons.mp hx
    obtain ⟨y1, y2⟩ := List.pairwise_cons.mp hy
    rw [mcn_cons]
    by_cases h : ans l x y ≤ 0
    · have k := (A.le l x y).mp h
      rw [if_pos h, mcn_crs A xs (y :: ys) _ x2 hy, crs_left x xs, crs_low (x := x), Nat.zero_add]
      intro z hz
      rcases List.mem_cons.mp hz with q | q
      · rw [q]; exact k
      · have := y1 z q; omega
    · have k : key y < key x := (A.pos l x y).mp (by omega)
      rw [if_neg h, mcn_crs A (x :: xs) ys _ hx y2, crs, abv_all (xs := x :: xs), List.length_cons, Nat.add_comm]
      intro z hz
      rcases List.mem_cons.mp hz with q | q
      · rw [q]; exact k
      · have := x1 z q; omega
termination_by xs ys => xs.length + ys.length
/-- the pairs out of order within a row -/
def inv (key : α → Int) : List α → Nat
  | [] => 0
  | x :: xs => crs key [x] xs + inv key xs
theorem inv_append (xs ys : List α) : inv key (xs ++ ys) = inv key xs + inv key ys + crs key xs ys := by
  induction xs with
  | nil => rw [List.nil_append, inv, crs_nil]; omega
  | cons x xs ih =>
    rw [List.cons_append, inv, inv, ih, crs_append, crs_left x xs ys]
    omega
theorem crs_perm1 {xs xs' : List α} (p : xs.Perm xs') (ys : List α) : crs key xs ys = crs key xs' ys := by
  induction ys with
  | nil => rfl
  | cons y ys ih =>
    rw [crs, crs, ih]
    unfold abv
    rw [(p.filter _).length_eq]
theorem crs_perm2 (xs : List α) {ys ys' : List α} (p : ys.Perm ys') : crs key xs ys = crs key xs ys' := by
  induction p with
  | nil => rfl
  | cons x _ ih => rw [crs, crs, ih]
  | swap x y l => rw [crs, crs, crs, crs]; omega
  | trans _ _ ih1 ih2 => rw [ih1, ih2]
theorem mrg_perm (ans : Ans α) : ∀ (xs ys : List α) (l : List (α × α)), (mrg ans xs ys l).1.Perm (xs ++ ys)
  | [], ys, l => by rw [mrg_nil]; exact List.Perm.refl _
  | x :: xs, [], l => by rw [mrg_nil2, List.append_nil]
  | x :: xs, y :: ys, l => by
    have h1 := mrg_perm ans xs (y :: ys) (l ++ [(x, y)])
    have h2 := mrg_perm ans (x :: xs) ys (l ++ [(x, y)])
    rw [mrg_cons]
    split
    · exact List.Perm.cons x h1
    · exact (List.Perm.cons y h2).trans List.perm_middle.symm
termination_by xs ys => xs.length + ys.length
theorem ctd_key (A : KeyA ans key) (n : Nat) : ∀ (xs : List α) (l : List (α × α)), xs.length ≤ n → Srt key (ctd ans xs l).1 ∧ (ctd ans xs l).1.Perm xs ∧ (ctd ans xs l).2.2 = inv key xs := by
  have small : ∀ (xs : List α), xs.length < 2 → Srt key xs ∧ inv key xs = 0 := fun xs q => by
    match xs, q with
    | [], _ => exact ⟨List.Pairwise.nil, rfl⟩
    | [x], _ => exact ⟨List.pairwise_singleton _ _, rfl⟩
    | _ :: _ :: _, q => simp at q; omega
  induction n with
  | zero =>
    intro xs l h
    have s := small xs (by omega)
    rw [ctd_small ans l (by omega)]
    exact ⟨s.1, List.Perm.refl _, s.2.symm⟩
  | succ n ih =>
    intro xs l h
    by_cases q : xs.length < 2
    · have s := small xs q
      rw [ctd_small ans l q]
      exact ⟨s.1, List.Perm.refl _, s.2.symm⟩
    obtain ⟨a, ea⟩ : ∃ a, ctd ans (xs.take ((xs.length + 1) / 2)) l = a := ⟨_, rfl⟩
    obtain ⟨b, eb⟩ : ∃ b, ctd ans (xs.drop ((xs.length + 1) / 2)) a.2.1 = b := ⟨_, rfl⟩
    have h1 := ih (xs.take ((xs.length + 1) / 2)) l (by rw [List.length_take]; omega)
    have h2 := ih (xs.drop ((xs.length + 1) / 2)) a.2.1 (by rw [List.length_drop]; omega)
    rw [ea] at h1
    rw [eb] at h2
    rw [ctd_big ans l q ea eb]
    refine ⟨(mrg_srt A a.1 b.1 b.2.1 h1.1 h2.1).1, ?_, ?_⟩
    · have p := (mrg_perm ans a.1 b.1 b.2.1).trans (h1.2.1.append h2.2.1)
      rw [List.take_append_drop] at p
      exact p
    · show a.2.2 + b.2.2 + mcn ans a.1 b.1 b.2.1 = _
      rw [mcn_crs A a.1 b.1 b.2.1 h1.1 h2.1, h1.2.2, h2.2.2, crs_perm1 h1.2.1, crs_perm2 _ h2.2.1, ← inv_append, List.take_append_drop]
/-- counted from the left, as the law does -/
theorem inv_snoc (xs : List α) (y : α) : inv key (xs ++ [y]) = inv key xs + abv key xs y := by
  rw [inv_append, inv, inv, crs, crs, crs]
  omega
end
end Mir

/-! either, both, without: two rows in order, swept together. -/
namespace Mir
section
variable {α : Type}
def swp (ans : Ans α) (pk : Int → α → α → List α) (fn : List α → List α → List α) : List α → List α → List (α × α) → List α × List (α × α)
  | [], ys, l => (fn [] ys, l)
  | x :: xs, [], l => (fn (x :: xs) [], l)
  | x :: xs, y :: ys, l =>
    if ans l x y < 0 then (pk (ans l x y) x y ++ (swp ans pk fn xs (y :: ys) (l ++ [(x, y)])).1, (swp ans pk fn xs (y :: ys) (l ++ [(x, y)])).2)
    else if ans l x y = 0 then (pk (ans l x y) x y ++ (swp ans pk fn xs ys (l ++ [(x, y)])).1, (swp ans pk fn xs ys (l ++ [(x, y)])).2)
    else (pk (ans l x y) x y ++ (swp ans pk fn (x :: xs) ys (l ++ [(x, y)])).1, (swp ans pk fn (x :: xs) ys (l ++ [(x, y)])).2)
termination_by xs ys => xs.length + ys.length
variable {ans : Ans α} {pk : Int → α → α → List α} {fn : List α → List α → List α}
theorem swp_nil (ys : List α) (l : List (α × α)) : swp ans pk fn [] ys l = (fn [] ys, l) := by unfold swp; rfl
theorem swp_nil2 (xs : List α) (l : List (α × α)) : swp ans pk fn xs [] l = (fn xs [], l) := by
  cases xs with
  | nil => unfold swp; rfl
  | cons x xs => unfold swp; rfl
theorem swp_lt {x y : α} {l : List (α × α)} (xs ys : List α) (h : ans l x y < 0) : swp ans pk fn (x :: xs) (y :: ys) l = (pk (ans l x y) x y ++ (swp ans pk fn xs (y :: ys) (l ++ [(x, y)])).1, (swp ans pk fn xs (y :: ys) (l ++ [(x, y)])).2) := by
  rw [swp, if_pos h]
theorem swp_eq {x y : α} {l : List (α × α)} (xs ys : List α) (h : ans l x y = 0) : swp ans pk fn (x :: xs) (y :: ys) l = (pk (ans l x y) x y ++ (swp ans pk fn xs ys (l ++ [(x, y)])).1, (swp ans pk fn xs ys (l ++ [(x, y)])).2) := by
  rw [swp, if_neg (by omega), if_pos h]
theorem swp_gt {x y : α} {l : List (α × α)} (xs ys : List α) (h : 0 < ans l x y) : swp ans pk fn (x :: xs) (y :: ys) l = (pk (ans l x y) x y ++ (swp ans pk fn (x :: xs) ys (l ++ [(x, y)])).1, (swp ans pk fn (x :: xs) ys (l ++ [(x, y)])).2) := by
  rw [swp, if_neg (by omega), if_neg (by omega)]
theorem swp_cnt (ans : Ans α) (pk : Int → α → α → List α) (fn : List α → List α → List α) : ∀ (xs ys : List α) (l : List (α × α)), l.length ≤ (swp ans pk fn xs ys l).2.length ∧ (swp ans pk fn xs ys l).2.length ≤ l.length + (xs.length + ys.length - 1) ∧ ((xs = [] ∨ ys = []) → (swp ans pk fn xs ys l).2 = l)
  | [], ys, l => by rw [swp_nil]; exact ⟨Nat.le_refl _, Nat.le_add_right _ _, fun _ => rfl⟩
  | x :: xs, [], l => by rw [swp_nil2]; exact ⟨Nat.le_refl _, Nat.le_add_right _ _, fun _ => rfl⟩
  | x :: xs, y :: ys, l => by
    have a := swp_cnt ans pk fn xs (y :: ys) (l ++ [(x, y)])
    have b := swp_cnt ans pk fn xs ys (l ++ [(x, y)])
    have c := swp_cnt ans pk fn (x :: xs) ys (l ++ [(x, y)])
    simp only [List.length_append, List.length_cons, List.length_nil] at a b c ⊢
    refine ⟨?_, ?_, fun h => by rcases h with h | h <;> cases h⟩
    · rcases Int.lt_trichotomy (ans l x y) 0 with h | h | h
      · rw [swp_lt xs ys h]; simp only []; omega
      · rw [swp_eq xs ys h]; simp only []; omega
      · rw [swp_gt xs ys h]; simp only []; omega
    · rcases Int.lt_trichotomy (ans l x y) 0 with h | h | h
      · rw [swp_lt xs ys h]; simp only []; omega
      · rw [swp_eq xs ys h]; simp only []; omega
      · rw [swp_gt xs ys h]; simp only []
        cases ys with
        | nil => rw [swp_nil2]; simp
        | cons z zs => simp only [List.length_cons] at c ⊢; omega
termination_by xs ys => xs.length + ys.length
/-! the three -/
def pkE (s : Int) (x y : α) : List α := if s ≤ 0 then [x] else [y]
def fnE (xs ys : List α) : List α := xs ++ ys
def pkB (s : Int) (x _ : α) : List α := if s = 0 then [x] else []
def fnB (_ _ : List α) : List α := []
def pkW (s : Int) (x _ : α) : List α := if s < 0 then [x] else []
def fnW (xs _ : List α) : List α := xs
/-- is an equal of x there? -/
def amg (key : α → Int) (ys : List α) (x : α) : Bool := ys.any fun y => decide (key y = key x)
theorem amg_iff {key : α → Int} {ys : List α} {x : α} : amg key ys x = true ↔ ∃ y ∈ ys, key y = key x := by
  unfold amg
  simp
theorem amg_no {key : α → Int} {ys : List α} {x : α} (h : ∀ y ∈ ys, key y ≠ key x) : amg key ys x = false := by
  rw [Bool.eq_false_iff]
  intro z
  obtain ⟨y, hy, e⟩ := amg_iff.mp z
  exact h y hy e
theorem amg_cons {key : α → Int} {ys : List α} {x y : α} (h : key y ≠ key x) : amg key (y :: ys) x = amg key ys x := by
  unfold amg
  rw [List.any_cons, decide_eq_false h, Bool.false_or]
theorem amg_hit {key : α → Int} {ys : List α} {x y : α} (h : key y = key x) : amg key (y :: ys) x = true := by
  unfold amg
  rw [List.any_cons, decide_eq_true h, Bool.true_or]
/-- in order, none like another -/
abbrev SSrt (key : α → Int) (xs : List α) : Prop := xs.Pairwise fun a b => key a < key b
theorem SSrt.srt {key : α → Int} {xs : List α} (h : SSrt key xs) : Srt key xs := h.imp fun h => Int.le_of_lt h
variable {key : α → Int}
theorem both_eq (A : KeyA ans key) : ∀ (xs ys : List α) (l : List (α × α)), SSrt key xs → SSrt key ys → (swp ans pkB fnB xs ys l).1 = xs.filter (amg key ys)
  | [], ys, l, _, _ => by rw [swp_nil]; rfl
  | x :: xs, [], l, _, _ => by
    rw [swp_nil2]
    symm
    rw [show fnB (x :: xs) [] = ([] : List α) from rfl]
    rw [List.filter_eq_nil_iff]
    intro z _
    simp [amg]
  | x :: xs, y :: ys, l, hx, hy => by
    obtain ⟨x1, x2⟩ := List.pairwise_cons.mp hx
    obtain ⟨y1, y2⟩ := List.pairwise_cons.mp hy
    rcases Int.lt_trichotomy (ans l x y) 0 with h | h | h
    · have k := (A.neg l x y).mp h
      rw [swp_lt xs ys h]
      show pkB _ x y ++ _ = _
      rw [both_eq A xs (y :: ys) _ x2 hy, List.filter_cons, if_neg, show pkB (ans l x y) x y = [] by unfold pkB; rw [if_neg (by omega)], List.nil_append]
      rw [amg_no fun z hz => ?_]
      · exact Bool.false_ne_true
      · rcases List.mem_cons.mp hz with q | q
        · rw [q]; omega
        · have := y1 z q; omega
    · have k := (A.eq l x y).mp h
      rw [swp_eq xs ys h]
      show pkB _ x y ++ _ = _
      rw [both_eq A xs ys _ x2 y2, List.filter_cons, if_pos (amg_hit k.symm), show pkB (ans l x y) x y = [x] by unfold pkB; rw [if_pos h]]
      show x :: _ = x :: _
      congr 1
      refine List.filter_congr fun z hz => (amg_cons ?_).symm
      have := x1 z hz
      omega
    · have k := (A.pos l x y).mp h
      rw [swp_gt xs ys h]
      show pkB _ x y ++ _ = _
      rw [both_eq A (x :: xs) ys _ hx y2, show pkB (ans l x y) x y = [] by unfold pkB; rw [if_neg (by omega)], List.nil_append]
      refine List.filter_congr fun z hz => (amg_cons ?_).symm
      rcases List.mem_cons.mp hz with q | q
      · rw [q]; omega
      · have := x1 z q; omega
termination_by xs ys => xs.length + ys.length
theorem without_eq (A : KeyA ans key) : ∀ (xs ys : List α) (l : List (α × α)), SSrt key xs → SSrt key ys → (swp ans pkW fnW xs ys l).1 = xs.filter (fun x => !amg key ys x)
  | [], ys, l, _, _ => by rw [swp_nil]; rfl
  | x :: xs, [], l, _, _ => by
    rw [swp_nil2]
    symm
    rw [show fnW (x :: xs) [] = (x :: xs : List α) from rfl]
    rw [List.filter_eq_self]
    intro z _
    simp [amg]
  | x :: xs, y :: ys, l, hx, hy => by
    obtain ⟨x1, x2⟩ := List.pairwise_cons.mp hx
    obtain ⟨y1, y2⟩ := List.pairwise_cons.mp hy
    rcases Int.lt_trichotomy (ans l x y) 0 with h | h | h
    · have k := (A.neg l x y).mp h
      rw [swp_lt xs ys h]
      show pkW _ x y ++ _ = _
      rw [without_eq A xs (y :: ys) _ x2 hy, List.filter_cons, if_pos, show pkW (ans l x y) x y = [x] by unfold pkW; rw [if_pos h]]
      · rfl
      · rw [amg_no fun z hz => ?_]
        · rfl
        · rcases List.mem_cons.mp hz with q | q
          · rw [q]; omega
          · have := y1 z q; omega
    · have k := (A.eq l x y).mp h
      rw [swp_eq xs ys h]
      show pkW _ x y ++ _ = _
      rw [without_eq A xs ys _ x2 y2, List.filter_cons, if_neg (by rw [amg_hit k.symm]; exact Bool.false_ne_true), show pkW (ans l x y) x y = [] by unfold pkW; rw [if_neg (by omega)], List.nil_append]
      refine List.filter_congr fun z hz => ?_
      rw [amg_cons]
      have := x1 z hz
      omega
    · have k := (A.pos l x y).mp h
      rw [swp_gt xs ys h]
      show pkW _ x y ++ _ = _
      rw [without_eq A (x :: xs) ys _ hx y2, show pkW (ans l x y) x y = [] by unfold pkW; rw [if_neg (by omega)], List.nil_append]
      refine List.filter_congr fun z hz => ?_
      rw [amg_cons]
      rcases List.mem_cons.mp hz with q | q
      · rw [q]; omega
      · have := x1 z q; omega
termination_by xs ys => xs.length + ys.length
theorem either_mem : ∀ (xs ys : List α) (l : List (α × α)) (z : α), z ∈ (swp ans pkE fnE xs ys l).1 → z ∈ xs ∨ z ∈ ys
  | [], ys, l, z, h => by rw [swp_nil] at h; exact .inr h
  | x :: xs, [], l, z, h => by rw [swp_nil2] at h; rw [show fnE (x :: xs) [] = (x :: xs : List α) from List.append_nil _] at h; exact .inl h
  | x :: xs, y :: ys, l, z, h => by
    have a := either_mem xs (y :: ys) (l ++ [(x, y)]) z
    have b := either_mem xs ys (l ++ [(x, y)]) z
    have c := either_mem (x :: xs) ys (l ++ [(x, y)]) z
    rcases Int.lt_trichotomy (ans l x y) 0 with q | q | q
    · rw [swp_lt xs ys q] at h
      rcases List.mem_append.mp h with h | h
      · unfold pkE at h; rw [if_pos (by omega), List.mem_singleton] at h; rw [h]; exact .inl List.mem_cons_self
      · rcases a h with h | h
        · exact .inl (List.mem_cons_of_mem _ h)
        · exact .inr h
    · rw [swp_eq xs ys q] at h
      rcases List.mem_append.mp h with h | h
      · unfold pkE at h; rw [if_pos (by omega), List.mem_singleton] at h; rw [h]; exact .inl List.mem_cons_self
      · rcases b h with h | h
        · exact .inl (List.mem_cons_of_mem _ h)
        · exact .inr (List.mem_cons_of_mem _ h)
    · rw [swp_gt xs ys q] at h
      rcases List.mem_append.mp h with h | h
      · unfold pkE at h; rw [if_neg (by omega), List.mem_singleton] at h; rw [h]; exact .inr List.mem_cons_self
      · rcases c h with h | h
        · exact .inl h
        · exact .inr (List.mem_cons_of_mem _ h)
termination_by xs ys => xs.length + ys.length
theorem either_srt (A : KeyA ans key) : ∀ (xs ys : List α) (l : List (α × α)), SSrt key xs → SSrt key ys → Srt key (swp ans pkE fnE xs ys l).1 ∧ ∀ k, ofK key k (swp ans pkE fnE xs ys l).1 = ofK key k xs ++ ofK key k (ys.filter fun y => !amg key xs y)
  | [], ys, l, _, hy => by
    rw [swp_nil]
    refine ⟨hy.srt, fun k => ?_⟩
    rw [show ys.filter (fun y => !amg key [] y) = ys from List.filter_eq_self.mpr fun z _ => rfl]
    rfl
  | x :: xs, [], l, hx, _ => by
    rw [swp_nil2]
    rw [show fnE (x :: xs) [] = (x :: xs : List α) from List.append_nil _]
    exact ⟨hx.srt, fun k => (List.append_nil _).symm⟩
  | x :: xs, y :: ys, l, hx, hy => by
    obtain ⟨x1, x2⟩ := List.pairwise_cons.mp hx
    obtain ⟨y1, y2⟩ := List.pairwise_cons.mp hy
    rcases Int.lt_trichotomy (ans l x y) 0 with h | h | h
    · have k := (A.neg l x y).mp h
      obtain ⟨h1, h2⟩ := either_srt A xs (y :: ys) (l ++ [(x, y)]) x2 hy
      rw [swp_lt xs ys h, show pkE (ans l x y) x y = [x] by unfold pkE; rw [if_pos (by omega)]]
      refine ⟨List.pairwise_cons.mpr ⟨fun z hz => ?_, h1⟩, fun kk => ?_⟩
      · rcases either_mem _ _ _ z hz with q | q
        · have := x1 z q; omega
        · rcases List.mem_cons.mp q with q | q
          · rw [q]; omega
          · have := y1 z q; omega
      · show ofK key kk (x :: (swp ans pkE fnE _ _ _).1) = _
        rw [ofK_cons, h2, ofK_cons]
        have e : (y :: ys).filter (fun y => !amg key (x :: xs) y) = (y :: ys).filter (fun y => !amg key xs y) := List.filter_congr fun z hz => by
          rw [amg_cons]
          rcases List.mem_cons.mp hz with q | q
          · rw [q]; omega
          · have := y1 z q; omega
        rw [e]
        split <;> rfl
    · have k := (A.eq l x y).mp h
      obtain ⟨h1, h2⟩ := either_srt A xs ys (l ++ [(x, y)]) x2 y2
      rw [swp_eq xs ys h, show pkE (ans l x y) x y = [x] by unfold pkE; rw [if_pos (by omega)]]
      refine ⟨List.pairwise_cons.mpr ⟨fun z hz => ?_, h1⟩, fun kk => ?_⟩
      · rcases either_mem _ _ _ z hz with q | q
        · have := x1 z q; omega
        · have := y1 z q; omega
      · show ofK key kk (x :: (swp ans pkE fnE _ _ _).1) = _
        rw [ofK_cons, h2, ofK_cons, List.filter_cons, if_neg (show ¬ ((!amg key (x :: xs) y) = true) by rw [amg_hit k]; exact Bool.false_ne_true)]
        have e : ys.filter (fun y => !amg key (x :: xs) y) = ys.filter (fun y => !amg key xs y) := List.filter_congr fun z hz => by
          rw [amg_cons]
          have := y1 z hz; omega
        rw [e]
        split <;> rfl
    · have k := (A.pos l x y).mp h
      obtain ⟨h1, h2⟩ := either_srt A (x :: xs) ys (l ++ [(x, y)]) hx y2
      rw [swp_gt xs ys h, show pkE (ans l x y) x y = [y] by unfold pkE; rw [if_neg (by omega)]]
      refine ⟨List.pairwise_cons.mpr ⟨fun z hz => ?_, h1⟩, fun kk => ?_⟩
      · rcases either_mem _ _ _ z hz with q | q
        · rcases List.mem_cons.mp q with q | q
          · rw [q]; omega
          · have := x1 z q; omega
        · have := y1 z q; omega
      · show ofK key kk (y :: (swp ans pkE fnE _ _ _).1) = _
        have no : ∀ z ∈ x :: xs, key z ≠ key y := fun z hz => by
          rcases List.mem_cons.mp hz with q | q
          · rw [q]; omega
          · have := x1 z q; omega
        rw [ofK_cons, h2, List.filter_cons, if_pos (show (!amg key (x :: xs) y) = true by rw [amg_no no]; rfl), ofK_cons key kk y]
        by_cases q : key y = kk
        · rw [if_pos q, if_pos q, ofK_none (xs := x :: xs) (fun z hz => by rw [← q]; exact no z hz)]
          rfl
        · rw [if_neg q, if_neg q]
termination_by xs ys => xs.length + ys.length
theorem either_isort (A : KeyA ans key) (xs ys : List α) (l : List (α × α)) (hx : SSrt key xs) (hy : SSrt key ys) : (swp ans pkE fnE xs ys l).1 = isort key (xs ++ ys.filter fun y => !amg key xs y) := by
  have h := either_srt A xs ys l hx hy
  exact isort_eq h.1 fun k => by rw [h.2, ofK_append]
theorem amg_self {xs : List α} {x : α} (h : x ∈ xs) : amg key xs x = true := amg_iff.mpr ⟨x, h, rfl⟩
theorem either_self (A : KeyA ans key) (xs : List α) (l : List (α × α)) (hx : SSrt key xs) : (swp ans pkE fnE xs xs l).1 = xs := by
  rw [either_isort A xs xs l hx hx, List.filter_eq_nil_iff.mpr (fun z hz => by rw [amg_self hz]; exact Bool.false_ne_true), List.append_nil, isort_id hx.srt]
theorem both_self (A : KeyA ans key) (xs : List α) (l : List (α × α)) (hx : SSrt key xs) : (swp ans pkB fnB xs xs l).1 = xs := by
  rw [both_eq A xs xs l hx hx]
  exact List.filter_eq_self.mpr fun z hz => amg_self hz
theorem without_self (A : KeyA ans key) (xs : List α) (l : List (α × α)) (hx : SSrt key xs) : (swp ans pkW fnW xs xs l).1 = [] := by
  rw [without_eq A xs xs l hx hx]
  exact List.filter_eq_nil_iff.mpr fun z hz => by rw [amg_self hz]; exact Bool.false_ne_true
/-! a row made strict -/
def mkS (key : α → Int) (s : List α) (e : α) : List α := match s.getLast? with
  | some z => if key z ≠ key e then s ++ [e] else s
  | none => s ++ [e]
def mks (key : α → Int) (xs : List α) : List α := (isort key xs).foldl (mkS key) []
theorem mkS_mem {s : List α} {e z : α} (h : z ∈ mkS key s e) : z ∈ s ∨ z = e := by
  unfold mkS at h
  split at h
  · split at h
    · rcases List.mem_append.mp h with q | q
      · exact .inl q
      · exact .inr (List.mem_singleton.mp q)
    · exact .inl h
  · rcases List.mem_append.mp h with q | q
    · exact .inl q
    · exact .inr (List.mem_singleton.mp q)
theorem mkS_len (s : List α) (e : α) : (mkS key s e).length ≤ s.length + 1 := by
  unfold mkS
  split
  · split <;> simp
  · simp
theorem mkS_fold : ∀ (ys s : List α), Srt key ys → SSrt key s → (∀ z ∈ s, ∀ y ∈ ys, key z ≤ key y) → SSrt key (ys.foldl (mkS key) s) ∧ (∀ z ∈ ys.foldl (mkS key) s, z ∈ s ∨ z ∈ ys) ∧ (ys.foldl (mkS key) s).length ≤ s.length + ys.length
  | [], s, _, hs, _ => ⟨hs, fun z h => .inl h, Nat.le_refl _⟩
  | y :: ys, s, hy, hs, hz => by
    obtain ⟨y1, y2⟩ := List.pairwise_cons.mp hy
    have hm : ∀ z ∈ mkS key s y, ∀ u ∈ ys, key z ≤ key u := fun z h u hu => by
      rcases mkS_mem h with q | q
      · exact hz z q u (List.mem_cons_of_mem _ hu)
      · rw [q]; exact y1 u hu
    have hss : SSrt key (mkS key s y) := by
      unfold mkS
      split
      · next z e =>
        split
        · next hne =>
          refine List.pairwise_append.mpr ⟨hs, List.pairwise_singleton _ _, fun a ha b hb => ?_⟩
          rw [List.mem_singleton.mp hb]
          have h1 := hz z (List.mem_of_getLast? e) y List.mem_cons_self
          obtain ⟨r, er⟩ := List.getLast?_eq_some_iff.mp e
          rw [er] at ha hs
          rcases List.mem_append.mp ha with q | q
          · have h2 := (List.pairwise_append.mp hs).2.2 a q z List.mem_cons_self
            omega
          · rw [List.mem_singleton.mp q]
            omega
        · exact hs
      · next e =>
        rw [List.getLast?_eq_none_iff.mp e]
        exact List.pairwise_singleton _ _
    obtain ⟨a, b, c⟩ := mkS_fold ys (mkS key s y) y2 hss hm
    refine ⟨a, fun z h => ?_, ?_⟩
    · rcases b z h with q | q
      · rcases mkS_mem q with q | q
        · exact .inl q
        · rw [q]; exact .inr List.mem_cons_self
      · exact .inr (List.mem_cons_of_mem _ q)
    · have := mkS_len (key := key) s y
      simp only [List.foldl_cons, List.length_cons]
      omega
theorem mks_spec (xs : List α) : SSrt key (mks key xs) ∧ (∀ z ∈ mks key xs, z ∈ xs) ∧ (mks key xs).length ≤ xs.length := by
  obtain ⟨a, b, c⟩ := mkS_fold (key := key) (isort key xs) [] (isort_srt key xs).1 List.Pairwise.nil fun z h => by cases h
  refine ⟨a, fun z h => ?_, by rw [isort_len, List.length_nil] at c; unfold mks; omega⟩
  rcases b z h with q | q
  · cases q
  · exact isort_mem q
end
end Mir

/-! ahead, unique, lower, upper. -/
namespace Mir
section
variable {α : Type}
/-! ### ahead -/
def ahI (ans : Ans α) (xs : List α) : Nat → Nat → List (α × α) → Nat × List (α × α)
  | 0, _, l => (xs.length, l)
  | n + 1, k, l => match xs[k - 1]?, xs[k]? with
    | some x, some y => if 0 < ans l x y then (k, l ++ [(x, y)]) else ahI ans xs n (k + 1) (l ++ [(x, y)])
    | _, _ => (xs.length, l)
def ahd (ans : Ans α) (xs : List α) (l : List (α × α)) : Nat × List (α × α) := ahI ans xs (xs.length - 1) 1 l
theorem ahI_step (ans : Ans α) {xs : List α} {n k : Nat} {x y : α} (l : List (α × α)) (ex : xs[k - 1]? = some x) (ey : xs[k]? = some y) : ahI ans xs (n + 1) k l = if 0 < ans l x y then (k, l ++ [(x, y)]) else ahI ans xs n (k + 1) (l ++ [(x, y)]) := by
  rw [ahI, ex, ey]
/-- the neighbours asked of -/
def nbs (xs : List α) (k : Nat) : List (α × α) := (xs.zip (xs.drop 1)).take k
theorem nbs_succ {xs : List α} {k : Nat} {x y : α} (ex : xs[k]? = some x) (ey : xs[k + 1]? = some y) : nbs xs (k + 1) = nbs xs k ++ [(x, y)] := by
  unfold nbs
  have e : (xs.zip (xs.drop 1))[k]? = some (x, y) := by
    rw [List.getElem?_zip_eq_some]
    exact ⟨ex, by rw [List.getElem?_drop, Nat.add_comm]; exact ey⟩
  rw [List.take_add_one, e]
  rfl
theorem ahI_spec (ans : Ans α) (xs : List α) : ∀ (n k : Nat) (l l0 : List (α × α)), 1 ≤ k → n + k = xs.length → l = l0 ++ nbs xs (k - 1) → (ahI ans xs n k l).1 ≤ xs.length ∧ (ahI ans xs n k l).2 = l0 ++ nbs xs (min (ahI ans xs n k l).1 (xs.length - 1))
  | 0, k, l, l0, hk, hn, hl => by
    rw [ahI]
    refine ⟨Nat.le_refl _, ?_⟩
    show l = _
    have e : min xs.length (xs.length - 1) = k - 1 := by omega
    rw [e]
    exact hl
  | n + 1, k, l, l0, hk, hn, hl => by
    obtain ⟨x, ex⟩ : ∃ x, xs[k - 1]? = some x := ⟨_, List.getElem?_eq_getElem (by omega)⟩
    obtain ⟨y, ey⟩ : ∃ y, xs[k]? = some y := ⟨_, List.getElem?_eq_getElem (by omega)⟩
    have e1 : l ++ [(x, y)] = l0 ++ nbs xs k := by
      have h := nbs_succ ex (by rw [show k - 1 + 1 = k by omega]; exact ey)
      rw [show k - 1 + 1 = k by omega] at h
      rw [hl, h, List.append_assoc]
    rw [ahI_step ans l ex ey]
    split
    · refine ⟨by show k ≤ _; omega, ?_⟩
      show l ++ [(x, y)] = l0 ++ nbs xs (min k (xs.length - 1))
      rw [show min k (xs.length - 1) = k by omega]
      exact e1
    · exact ahI_spec ans xs n (k + 1) (l ++ [(x, y)]) l0 (by omega) (by omega) (by rw [show k + 1 - 1 = k by omega]; exact e1)
theorem ahd_spec (ans : Ans α) (xs : List α) (l : List (α × α)) : (ahd ans xs l).1 ≤ xs.length ∧ (ahd ans xs l).2 = l ++ nbs xs (min (ahd ans xs l).1 (xs.length - 1)) := by
  unfold ahd
  by_cases h : 1 ≤ xs.length
  · exact ahI_spec ans xs (xs.length - 1) 1 l l (Nat.le_refl _) (by omega) (by simp [nbs])
  · have e : xs.length = 0 := by omega
    rw [e, ahI]
    refine ⟨by simp [e], ?_⟩
    simp [nbs, e]
theorem nbs_len (xs : List α) (k : Nat) : (nbs xs k).length ≤ xs.length - 1 := by
  unfold nbs
  rw [List.length_take, List.length_zip, List.length_drop]
  omega
theorem nbs_mem {xs : List α} {k : Nat} {z : α × α} (h : z ∈ nbs xs k) : z.1 ∈ xs ∧ z.2 ∈ xs := by
  unfold nbs at h
  have h1 := List.of_mem_zip (a := z.1) (b := z.2) (List.mem_of_mem_take h)
  exact ⟨h1.1, List.mem_of_mem_drop h1.2⟩
theorem ahd_cnt (ans : Ans α) (xs : List α) (l : List (α × α)) : (ahd ans xs l).2.length ≤ l.length + (xs.length - 1) := by
  rw [(ahd_spec ans xs l).2, List.length_append]
  have := nbs_len xs (min (ahd ans xs l).1 (xs.length - 1))
  omega
/-- the law's own look -/
def lookA (key : α → Int) (xs : List α) : Nat → Nat → Nat
  | 0, k => k
  | n + 1, k => match xs[k - 1]?, xs[k]? with
    | some x, some y => if key x ≤ key y then lookA key xs n (k + 1) else k
    | _, _ => k
theorem ahI_look {ans : Ans α} {key : α → Int} (A : KeyA ans key) (xs : List α) : ∀ (n k : Nat) (l : List (α × α)), 1 ≤ k → n + k = xs.length → (ahI ans xs n k l).1 = min (lookA key xs n k) xs.length
  | 0, k, l, hk, hn => by
    rw [ahI, lookA]
    show xs.length = _
    omega
  | n + 1, k, l, hk, hn => by
    obtain ⟨x, ex⟩ : ∃ x, xs[k - 1]? = some x := ⟨_, List.getElem?_eq_getElem (by omega)⟩
    obtain ⟨y, ey⟩ : ∃ y, xs[k]? = some y := ⟨_, List.getElem?_eq_getElem (by omega)⟩
    rw [ahI_step ans l ex ey, lookA, ex, ey]
    have h := A.pos l x y
    by_cases q : 0 < ans l x y
    · have hq := h.mp q
      rw [if_pos q]
      show k = min (if key x ≤ key y then lookA key xs n (k + 1) else k) xs.length
      rw [if_neg (by omega)]
      omega
    · have hq : key x ≤ key y := by
        have := fun z => q (h.mpr z)
        omega
      rw [if_neg q]
      show _ = min (if key x ≤ key y then lookA key xs n (k + 1) else k) xs.length
      rw [if_pos hq]
      exact ahI_look A xs n (k + 1) _ (by omega) (by omega)
/-! ### unique -/
def unqS (ans : Ans α) (s : List α × List (α × α)) (e : α) : List α × List (α × α) := match s.1.getLast? with
  | some z => if ans s.2 z e ≠ 0 then (s.1 ++ [e], s.2 ++ [(z, e)]) else (s.1, s.2 ++ [(z, e)])
  | none => s
def unq (ans : Ans α) (xs : List α) (l : List (α × α)) : List α × List (α × α) := (xs.drop 1).foldl (unqS ans) (xs.take 1, l)
/-- by a key alone -/
def unkS (key : α → Int) (s : List α) (e : α) : List α := match s.getLast? with
  | some z => if key z ≠ key e then s ++ [e] else s
  | none => s
def unk (key : α → Int) (xs : List α) : List α := (xs.drop 1).foldl (unkS key) (xs.take 1)
theorem unqS_step (ans : Ans α) {s : List α × List (α × α)} {z : α} (e : α) (h : s.1.getLast? = some z) : unqS ans s e = if ans s.2 z e ≠ 0 then (s.1 ++ [e], s.2 ++ [(z, e)]) else (s.1, s.2 ++ [(z, e)]) := by
  unfold unqS
  rw [h]
theorem unqS_ne (ans : Ans α) {s : List α × List (α × α)} (e : α) (h : s.1 ≠ []) : (unqS ans s e).1 ≠ [] ∧ (unqS ans s e).2.length = s.2.length + 1 ∧ (unqS ans s e).1.length ≤ s.1.length + 1 ∧ ∃ z, z ∈ s.1 ∧ (unqS ans s e).2 = s.2 ++ [(z, e)] := by
  obtain ⟨z, hz⟩ : ∃ z, s.1.getLast? = some z := ⟨_, List.getLast?_eq_some_getLast h⟩
  rw [unqS_step ans e hz]
  have hm := List.mem_of_getLast? hz
  split
  · exact ⟨by simp, by simp, by simp, z, hm, rfl⟩
  · exact ⟨h, by simp, by simp, z, hm, rfl⟩
theorem unqS_mem (ans : Ans α) {s : List α × List (α × α)} {e z : α} (h : z ∈ (unqS ans s e).1) : z ∈ s.1 ∨ z = e := by
  unfold unqS at h
  split at h
  · split at h
    · rcases List.mem_append.mp h with q | q
      · exact .inl q
      · exact .inr (List.mem_singleton.mp q)
    · exact .inl h
  · exact .inl h
theorem unq_cnt (ans : Ans α) (xs : List α) (l : List (α × α)) : (unq ans xs l).2.length = l.length + (xs.length - 1) := by
  unfold unq
  cases xs with
  | nil => simp
  | cons x xs =>
    have : ∀ (ys : List α) (s : List α × List (α × α)), s.1 ≠ [] → (ys.foldl (unqS ans) s).2.length = s.2.length + ys.length := by
      intro ys
      induction ys with
      | nil => intro s _; rfl
      | cons y ys ih =>
        intro s hs
        obtain ⟨h1, h2, _⟩ := unqS_ne ans y hs
        rw [List.foldl_cons, ih _ h1, h2, List.length_cons]
        omega
    have h := this xs ([x], l) (by simp)
    simpa using h
theorem unq_unk {ans : Ans α} {key : α → Int} (A : KeyA ans key) (xs : List α) (l : List (α × α)) : (unq ans xs l).1 = unk key xs := by
  unfold unq unk
  have : ∀ (ys : List α) (s : List α × List (α × α)), (ys.foldl (unqS ans) s).1 = ys.foldl (unkS key) s.1 := by
    intro ys
    induction ys with
    | nil => intro s; rfl
    | cons y ys ih =>
      intro s
      rw [List.foldl_cons, List.foldl_cons, ih]
      congr 1
      unfold unqS unkS
      cases hz : s.1.getLast? with
      | none => rfl
      | some z =>
        show (if ans s.2 z y ≠ 0 then (s.1 ++ [y], s.2 ++ [(z, y)]) else (s.1, s.2 ++ [(z, y)])).1 = if key z ≠ key y then s.1 ++ [y] else s.1
        by_cases q : ans s.2 z y = 0
        · rw [if_neg (not_not_intro q), if_neg (not_not_intro ((A.eq _ _ _).mp q))]
        · rw [if_pos q, if_pos fun k => q ((A.eq _ _ _).mpr k)]
  exact this _ _
/-! ### the search -/
def bsr (p : Int → Bool) (ans : Ans α) (xs : List α) (key : α) : Nat → Nat → Nat → List (α × α) → Nat × List (α × α)
  | 0, low, _, l => (low, l)
  | f + 1, low, high, l => if low < high then (match xs[(low + high) / 2]? with
      | some x => if p (ans l x key) then bsr p ans xs key f ((low + high) / 2 + 1) high (l ++ [(x, key)]) else bsr p ans xs key f low ((low + high) / 2) (l ++ [(x, key)])
      | none => (low, l)) else (low, l)
theorem bsr_done (p : Int → Bool) (ans : Ans α) (xs : List α) (key : α) (f : Nat) {low high : Nat} (l : List (α × α)) (h : ¬ low < high) : bsr p ans xs key f low high l = (low, l) := by
  cases f with
  | zero => rw [bsr]
  | succ f => rw [bsr, if_neg h]
theorem bsr_step (p : Int → Bool) (ans : Ans α) {xs : List α} {key : α} {f low high : Nat} {x : α} (l : List (α × α)) (h : low < high) (ex : xs[(low + high) / 2]? = some x) :
    bsr p ans xs key (f + 1) low high l = if p (ans l x key) then bsr p ans xs key f ((low + high) / 2 + 1) high (l ++ [(x, key)]) else bsr p ans xs key f low ((low + high) / 2) (l ++ [(x, key)]) := by
  rw [bsr, if_pos h, ex]
theorem bsr_spec (p : Int → Bool) (ans : Ans α) (xs : List α) (key : α) : ∀ (f low high : Nat) (l : List (α × α)), low ≤ high → high ≤ xs.length → high - low ≤ f →
    low ≤ (bsr p ans xs key f low high l).1 ∧ (bsr p ans xs key f low high l).1 ≤ high ∧ l.length ≤ (bsr p ans xs key f low high l).2.length ∧ (bsr p ans xs key f low high l).2.length ≤ l.length + clog (high - low + 1) ∧ Grew (fun z => z.1 ∈ xs ∧ z.2 = key) l (bsr p ans xs key f low high l).2
  | 0, low, high, l, h1, h2, h3 => by
    rw [bsr]
    exact ⟨Nat.le_refl _, h1, Nat.le_refl _, Nat.le_add_right _ _, .refl _ _⟩
  | f + 1, low, high, l, h1, h2, h3 => by
    by_cases h : low < high
    · obtain ⟨x, ex⟩ : ∃ x, xs[(low + high) / 2]? = some x := ⟨_, List.getElem?_eq_getElem (by omega)⟩
      have g : Grew (fun z => z.1 ∈ xs ∧ z.2 = key) l (l ++ [(x, key)]) := .one ⟨List.mem_of_getElem? ex, rfl⟩
      have ec : clog (high - low + 1) = clog ((high - low) / 2 + 1) + 1 := by
        rw [clog_half (by omega)]
        congr 2
        omega
      rw [bsr_step p ans l h ex]
      split
      · obtain ⟨i1, i2, i3, i4, i5⟩ := bsr_spec p ans xs key f ((low + high) / 2 + 1) high (l ++ [(x, key)]) (by omega) h2 (by omega)
        rw [List.length_append, List.length_singleton] at i3 i4
        have m := clog_mono (show high - ((low + high) / 2 + 1) + 1 ≤ (high - low) / 2 + 1 by omega)
        exact ⟨by omega, i2, by omega, by omega, g.trans i5⟩
      · obtain ⟨i1, i2, i3, i4, i5⟩ := bsr_spec p ans xs key f low ((low + high) / 2) (l ++ [(x, key)]) (by omega) (by omega) (by omega)
        rw [List.length_append, List.length_singleton] at i3 i4
        have m := clog_mono (show (low + high) / 2 - low + 1 ≤ (high - low) / 2 + 1 by omega)
        exact ⟨i1, by omega, by omega, by omega, g.trans i5⟩
    · rw [bsr_done p ans xs key _ l h]
      exact ⟨Nat.le_refl _, h1, Nat.le_refl _, Nat.le_add_right _ _, .refl _ _⟩
/-- where all answers ahead of a place are yes and all others no, the search finds it -/
theorem bsr_find (p : Int → Bool) (ans : Ans α) (xs : List α) (key : α) (c : Nat) (hc : c ≤ xs.length) (h : ∀ l i x, xs[i]? = some x → (p (ans l x key) = true ↔ i < c)) :
    ∀ (f low high : Nat) (l : List (α × α)), low ≤ c → c ≤ high → high ≤ xs.length → high - low ≤ f → (bsr p ans xs key f low high l).1 = c
  | 0, low, high, l, h1, h2, h3, h4 => by
    rw [bsr]
    show low = c
    omega
  | f + 1, low, high, l, h1, h2, h3, h4 => by
    by_cases q : low < high
    · obtain ⟨x, ex⟩ : ∃ x, xs[(low + high) / 2]? = some x := ⟨_, List.getElem?_eq_getElem (by omega)⟩
      rw [bsr_step p ans l q ex]
      have hx := h l _ x ex
      split
      · rename_i y
        have := hx.mp y
        exact bsr_find p ans xs key c hc h f _ high _ (by omega) h2 h3 (by omega)
      · rename_i y
        have : ¬ (low + high) / 2 < c := fun z => y (hx.mpr z)
        exact bsr_find p ans xs key c hc h f low _ _ h1 (by omega) (by omega) (by omega)
    · rw [bsr_done p ans xs key _ l q]
      show low = c
      omega
/-- of a row in order: as many as lie below -/
theorem cut_place {key : α → Int} {xs : List α} (hs : Srt key xs) (p : Int → Bool) (hp : ∀ a b : Int, a ≤ b → p b = true → p a = true) : ∀ i x, xs[i]? = some x → (p (key x) = true ↔ i < (xs.filter fun x => p (key x)).length) := by
  induction xs with
  | nil => intro i x h; simp at h
  | cons y ys ih =>
    obtain ⟨h1, h2⟩ := List.pairwise_cons.mp hs
    have ih := ih h2
    intro i x hx
    by_cases q : p (key y) = true
    · rw [List.filter_cons, if_pos q, List.length_cons]
      cases i with
      | zero =>
        simp at hx
        subst hx
        simp [q]
      | succ i =>
        have := ih i x (by simpa using hx)
        rw [this]
        omega
    · have hno : (ys.filter fun x => p (key x)) = [] := by
        rw [List.filter_eq_nil_iff]
        intro z hz hpz
        exact q (hp _ _ (h1 z hz) hpz)
      rw [List.filter_cons, if_neg q, hno]
      simp only [List.length_nil, Nat.not_lt_zero, iff_false]
      intro hpx
      have hm := List.mem_of_getElem? hx
      rcases List.mem_cons.mp hm with e | e
      · rw [e] at hpx
        exact q hpx
      · exact q (hp _ _ (h1 x e) hpx)
end
end Mir

/-! what holds of any answers, an order's or not -/
namespace Mir
section
variable {α β : Type}
def lieI (ns : List Int) (n : Nat) : Int :=
  if drawn (cellI ns 1) 1 % 4 = 0 then drawn (cellI ns n) n % 3 - 1 else if drawn (cellI ns 1) 1 % 4 = 1 then 1 else if drawn (cellI ns 1) 1 % 4 = 2 then -1 else drawn (cellI ns n) n % 7 - 3
theorem stab_perm (ans : Ans α) (n : Nat) : ∀ (xs : List α) (l : List (α × α)), xs.length ≤ n → (stab ans xs l).1.Perm xs := by
  induction n with
  | zero =>
    intro xs l h
    rw [stab_small ans l (by omega)]
  | succ n ih =>
    intro xs l h
    by_cases hs : xs.length < 2
    · rw [stab_small ans l hs]
    · have h1 := ih (xs.take ((xs.length + 1) / 2)) l (by rw [List.length_take]; omega)
      have h2 := ih (xs.drop ((xs.length + 1) / 2)) (stab ans (xs.take ((xs.length + 1) / 2)) l).2 (by rw [List.length_drop]; omega)
      have h3 : ((stab ans (xs.take ((xs.length + 1) / 2)) l).1 ++ (stab ans (xs.drop ((xs.length + 1) / 2)) (stab ans (xs.take ((xs.length + 1) / 2)) l).2).1).Perm xs := by
        have h4 := List.Perm.append h1 h2
        rw [List.take_append_drop] at h4
        exact h4
      rw [stab_big ans l hs]
      split
      · split
        · exact h3
        · exact (mrg_perm ans _ _ _).trans h3
      · exact h3
theorem mrg_sub (ans : Ans α) : ∀ (xs ys : List α) (l : List (α × α)), xs.Sublist (mrg ans xs ys l).1 ∧ ys.Sublist (mrg ans xs ys l).1
  | [], ys, l => by rw [mrg_nil]; exact ⟨List.nil_sublist _, List.Sublist.refl _⟩
  | x :: xs, [], l => by rw [mrg_nil2]; exact ⟨List.Sublist.refl _, List.nil_sublist _⟩
  | x :: xs, y :: ys, l => by
    have h1 := mrg_sub ans xs (y :: ys) (l ++ [(x, y)])
    have h2 := mrg_sub ans (x :: xs) ys (l ++ [(x, y)])
    rw [mrg_cons]
    split
    · exact ⟨h1.1.cons₂ x, h1.2.cons x⟩
    · exact ⟨h2.1.cons y, h2.2.cons₂ y⟩
termination_by xs ys => xs.length + ys.length
theorem either_sub (ans : Ans α) : ∀ (xs ys : List α) (l : List (α × α)), xs.Sublist (swp ans pkE fnE xs ys l).1
  | [], ys, l => List.nil_sublist _
  | x :: xs, [], l => by rw [swp_nil2]; unfold fnE; rw [List.append_nil]; exact List.Sublist.refl _
  | x :: xs, y :: ys, l => by
    have h1 := either_sub ans xs (y :: ys) (l ++ [(x, y)])
    have h2 := either_sub ans xs ys (l ++ [(x, y)])
    have h3 := either_sub ans (x :: xs) ys (l ++ [(x, y)])
    rcases Int.lt_trichotomy (ans l x y) 0 with h | h | h
    · rw [swp_lt xs ys h]
      unfold pkE at h1 ⊢
      rw [if_pos (by omega)]
      exact h1.cons₂ x
    · rw [swp_eq xs ys h]
      unfold pkE at h2 ⊢
      rw [if_pos (by omega)]
      exact h2.cons₂ x
    · rw [swp_gt xs ys h]
      unfold pkE at h3 ⊢
      rw [if_neg (by omega)]
      exact h3.cons y
termination_by xs ys => xs.length + ys.length
theorem either_fil (ans : Ans α) (p : α → Bool) : ∀ (xs ys : List α) (l : List (α × α)), (∀ x ∈ xs, p x = false) → ((swp ans pkE fnE xs ys l).1.filter p).Sublist ys
  | [], ys, l, _ => by rw [swp_nil]; exact List.filter_sublist
  | x :: xs, [], l, hx => by
    rw [swp_nil2]
    unfold fnE
    rw [List.append_nil, List.filter_eq_nil_iff.mpr fun z hz => by rw [hx z hz]; simp]
    exact List.Sublist.refl _
  | x :: xs, y :: ys, l, hx => by
    have hx' : ∀ z ∈ xs, p z = false := fun z hz => hx z (List.mem_cons_of_mem _ hz)
    have h1 := either_fil ans p xs (y :: ys) (l ++ [(x, y)]) hx'
    have h2 := either_fil ans p xs ys (l ++ [(x, y)]) hx'
    have h3 := either_fil ans p (x :: xs) ys (l ++ [(x, y)]) hx
    have px := hx x List.mem_cons_self
    rcases Int.lt_trichotomy (ans l x y) 0 with h | h | h
    · rw [swp_lt xs ys h]
      unfold pkE at h1 ⊢
      rw [if_pos (by omega), List.singleton_append, List.filter_cons_of_neg (by rw [px]; simp)]
      exact h1
    · rw [swp_eq xs ys h]
      unfold pkE at h2 ⊢
      rw [if_pos (by omega), List.singleton_append, List.filter_cons_of_neg (by rw [px]; simp)]
      exact h2.cons y
    · rw [swp_gt xs ys h]
      unfold pkE at h3 ⊢
      rw [if_neg (by omega), List.singleton_append]
      by_cases py : p y = true
      · rw [List.filter_cons_of_pos py]
        exact h3.cons₂ y
      · rw [List.filter_cons_of_neg py]
        exact h3.cons y
termination_by xs ys => xs.length + ys.length
theorem either_len (ans : Ans α) : ∀ (xs ys : List α) (l : List (α × α)), (swp ans pkE fnE xs ys l).1.length ≤ xs.length + ys.length
  | [], ys, l => by rw [swp_nil]; unfold fnE; simp
  | x :: xs, [], l => by rw [swp_nil2]; unfold fnE; simp
  | x :: xs, y :: ys, l => by
    have h1 := either_len ans xs (y :: ys) (l ++ [(x, y)])
    have h2 := either_len ans xs ys (l ++ [(x, y)])
    have h3 := either_len ans (x :: xs) ys (l ++ [(x, y)])
    simp only [List.length_cons] at h1 h2 h3 ⊢
    have hp : ∀ s : Int, (pkE s x y).length = 1 := fun s => by
      unfold pkE
      split <;> rfl
    rcases Int.lt_trichotomy (ans l x y) 0 with h | h | h
    · rw [swp_lt xs ys h, List.length_append, hp]
      omega
    · rw [swp_eq xs ys h, List.length_append, hp]
      omega
    · rw [swp_gt xs ys h, List.length_append, hp]
      omega
termination_by xs ys => xs.length + ys.length
theorem both_sub (ans : Ans α) : ∀ (xs ys : List α) (l : List (α × α)), ((swp ans pkB fnB xs ys l).1).Sublist xs
  | [], ys, l => by rw [swp_nil]; exact List.Sublist.refl _
  | x :: xs, [], l => by rw [swp_nil2]; exact List.nil_sublist _
  | x :: xs, y :: ys, l => by
    have h1 := both_sub ans xs (y :: ys) (l ++ [(x, y)])
    have h2 := both_sub ans xs ys (l ++ [(x, y)])
    have h3 := both_sub ans (x :: xs) ys (l ++ [(x, y)])
    rcases Int.lt_trichotomy (ans l x y) 0 with h | h | h
    · rw [swp_lt xs ys h]
      unfold pkB at h1 ⊢
      rw [if_neg (by omega)]
      exact h1.cons x
    · rw [swp_eq xs ys h]
      unfold pkB at h2 ⊢
      rw [if_pos h]
      exact h2.cons₂ x
    · rw [swp_gt xs ys h]
      unfold pkB at h3 ⊢
      rw [if_neg (by omega)]
      exact h3
termination_by xs ys => xs.length + ys.length
theorem without_sub (ans : Ans α) : ∀ (xs ys : List α) (l : List (α × α)), ((swp ans pkW fnW xs ys l).1).Sublist xs
  | [], ys, l => by rw [swp_nil]; exact List.Sublist.refl _
  | x :: xs, [], l => by rw [swp_nil2]; exact List.Sublist.refl _
  | x :: xs, y :: ys, l => by
    have h1 := without_sub ans xs (y :: ys) (l ++ [(x, y)])
    have h2 := without_sub ans xs ys (l ++ [(x, y)])
    have h3 := without_sub ans (x :: xs) ys (l ++ [(x, y)])
    rcases Int.lt_trichotomy (ans l x y) 0 with h | h | h
    · rw [swp_lt xs ys h]
      unfold pkW at h1 ⊢
      rw [if_pos h]
      exact h1.cons₂ x
    · rw [swp_eq xs ys h]
      unfold pkW at h2 ⊢
      rw [if_neg (by omega)]
      exact h2.cons x
    · rw [swp_gt xs ys h]
      unfold pkW at h3 ⊢
      rw [if_neg (by omega)]
      exact h3
termination_by xs ys => xs.length + ys.length
theorem unqS_or (ans : Ans α) (s : List α × List (α × α)) (e : α) : (unqS ans s e).1 = s.1 ++ [e] ∨ (unqS ans s e).1 = s.1 := by
  unfold unqS
  split
  · split
    · exact .inl rfl
    · exact .inr rfl
  · exact .inr rfl
theorem unq_fold (ans : Ans α) : ∀ (ys : List α) (s : List α × List (α × α)), ∃ r, (ys.foldl (unqS ans) s).1 = s.1 ++ r ∧ r.Sublist ys
  | [], s => ⟨[], (List.append_nil _).symm, List.Sublist.refl _⟩
  | y :: ys, s => by
    obtain ⟨r, h1, h2⟩ := unq_fold ans ys (unqS ans s y)
    rw [List.foldl_cons]
    rcases unqS_or ans s y with e | e
    · exact ⟨y :: r, by rw [h1, e, List.append_assoc]; rfl, h2.cons₂ y⟩
    · exact ⟨r, by rw [h1, e], h2.cons y⟩
theorem unq_sub (ans : Ans α) (xs : List α) (l : List (α × α)) : (unq ans xs l).1.Sublist xs ∧ (unq ans xs l).1.take 1 = xs.take 1 := by
  obtain ⟨r, h1, h2⟩ := unq_fold ans (xs.drop 1) (xs.take 1, l)
  have h1 : (unq ans xs l).1 = xs.take 1 ++ r := h1
  rw [h1]
  refine ⟨?_, ?_⟩
  · have h3 := List.Sublist.append (List.Sublist.refl (xs.take 1)) h2
    rw [List.take_append_drop] at h3
    exact h3
  · cases xs with
    | nil =>
      have e : r = [] := List.eq_nil_of_sublist_nil h2
      rw [e]
      rfl
    | cons x xs => simp
/-! ### looking for the same elements, and for a row within another -/
/-- the first place with contents e -/
theorem perm_erase_at [DecidableEq β] {c : α → β} {e : β} {rest : List β} {L : List α} (h : (e :: rest).Perm (L.map c)) : ∃ (j : Nat) (z : α), L[j]? = some z ∧ c z = e ∧ (∀ (m : Nat) (z' : α), m < j → L[m]? = some z' → c z' ≠ e) ∧ rest.Perm ((L.eraseIdx j).map c) := by
  have hm : e ∈ L.map c := h.subset List.mem_cons_self
  have key : ∀ (L : List α), e ∈ L.map c → ∃ (j : Nat) (z : α), L[j]? = some z ∧ c z = e ∧ (∀ (m : Nat) (z' : α), m < j → L[m]? = some z' → c z' ≠ e) ∧ (L.eraseIdx j).map c = (L.map c).erase e := by
    intro L
    induction L with
    | nil => intro h; cases h
    | cons x L ih =>
      intro h
      by_cases hx : c x = e
      · refine ⟨0, x, rfl, hx, fun m z' hm => absurd hm (Nat.not_lt_zero _), ?_⟩
        rw [List.map_cons, hx]
        simp
      · rw [List.map_cons] at h
        rcases List.mem_cons.mp h with q | q
        · exact absurd q.symm hx
        · obtain ⟨j, z, h1, h2, h3, h4⟩ := ih q
          refine ⟨j + 1, z, h1, h2, fun m z' hm hz => ?_, ?_⟩
          · cases m with
            | zero =>
              simp at hz
              rw [← hz]
              exact hx
            | succ m => exact h3 m z' (by omega) hz
          · rw [List.eraseIdx_cons_succ, List.map_cons, h4, List.map_cons, List.erase_cons_tail (by simpa using hx)]
  obtain ⟨j, z, h1, h2, h3, h4⟩ := key L hm
  refine ⟨j, z, h1, h2, h3, ?_⟩
  rw [h4]
  exact (List.cons_perm_iff_perm_erase.mp h).2
theorem sub_skip {x y : β} {xs ys : List β} (h : (x :: xs).Sublist (y :: ys)) (n : y ≠ x) : (x :: xs).Sublist ys := by
  cases h with
  | cons _ h => exact h
  | cons_cons _ h => exact absurd rfl n
theorem sub_take {x : β} {xs ys : List β} (h : (x :: xs).Sublist (x :: ys)) : xs.Sublist ys := by
  cases h with
  | cons _ h => exact (List.sublist_cons_self x xs).trans h
  | cons_cons _ h => exact h
end
end Mir

namespace Ord
open PySem PySem.Spec PyProof.Rows L2 LamX
section
variable {P : Program} {w : World} {K : PySem.W.Frag} {mg : Str → Option Value} {base : Heap}
/-! ### _law_lie -/
def N__law_lie : List Str := ["_law_asked", "_law_script", "_law_one", "_law_other", "_law_more"]
theorem sc__law_lie : FnScope ["_law_asked", "_law_script", "_law_one", "_law_other", "_law_more"] ["_law_asked", "_law_script", "_law_one", "_law_other"] (defScope st__law_lie) := ⟨rfl, rfl, rfl, by decide +kernel, rfl, by decide +kernel, by decide +kernel⟩
def spLie (K : PySem.W.Frag) : Sp := fun vs H Q _ => ∃ (q a : Addr) (ns : List Int) (x y : V) (ps : List V), vs = [.ref q, .ref a, x, y] ∧ H q = some (.lst ps) ∧ ps.length < 1000000 ∧ SqF K H a (ns.map V.int) ∧ ns.length ≤ 1000 ∧
  ∀ t H', H t = none → Same (upd (upd H t (.tup [x, y])) q (.lst (ps ++ [.ref t]))) H' → Q (.int (Mir.lieI ns (ps.length + 1))) H'
theorem ok_lie (d__law_lie : Df K mg "_law_lie" st__law_lie ["_law_asked", "_law_script", "_law_one", "_law_other"]) (d__law_cell : Df K mg "_law_cell" st__law_cell ["_law_script", "_law_k"]) (d__law_drawn : Df K mg "_law_drawn" st__law_drawn ["_law_cell_here", "_law_k"]) (mLen : mg "len" = none) : FnOk P w K mg base CX0 2 d__law_lie.f d__law_lie.fd ["_law_asked", "_law_script", "_law_one", "_law_other"] (spLie K) := by
  have G__law_cell : FnOk P w K mg base CX0 1 d__law_cell.f d__law_cell.fd ["_law_script", "_law_k"] (spCellK K) := ok_cell d__law_cell mLen
  have G__law_drawn : FnOk P w K mg base CX0 1 d__law_drawn.f d__law_drawn.fd ["_law_cell_here", "_law_k"] spDrawn := ok_drawn d__law_drawn
  refine d__law_lie.F.ok sc__law_lie (fun vs H Q E h => ?_) (fun cdv A outer s H vs Q E hr h => ?_)
  · obtain ⟨q, a, ns, x, y, ps, rfl, _⟩ := h
    rfl
  · obtain ⟨q, a, ns, x, y, ps, rfl, hq, hl, hS, hz, hQ⟩ := h
    have nd := sc__law_lie.nd
    refine ⟨_, (pss_cons (ps_expr (pe_bm PySem.F.plainAttrs_list PySem.F.slot_list_append PySem.F.type_list_append mt_append (pv 0) (pa_cons (pe_tup (pa_cons (pv 2) (pa_cons (pv 3) pa_nil))) pa_nil)))
  (pss_cons (ps_set (i := 4) nd rfl (Or.inl rfl) (pe_cd (d := d__law_drawn) G__law_drawn (hr.mono (by omega)) (pa_cons (pe_cd (d := d__law_cell) G__law_cell (hr.mono (by omega)) (pa_cons (pv 1) (pa_cons (pe_len mLen (pv 0)) pa_nil))) (pa_cons (pe_len mLen (pv 0)) pa_nil))))
  (pss_one (ps_ret (pe_ix ix_list (pe_lst (pa_cons (pe_op op_subE (pe_op op_modE (pv 4) pe_int) pe_int) (pa_cons pe_int (pa_cons (pe_op op_subE pe_int pe_int) (pa_cons (pe_op op_subE (pe_op op_modE (pv 4) pe_int) pe_int) pa_nil))))) (pe_op op_modE (pe_cd (d := d__law_drawn) G__law_drawn (hr.mono (by omega)) (pa_cons (pe_cd (d := d__law_cell) G__law_cell (hr.mono (by omega)) (pa_cons (pv 1) (pa_cons pe_int pa_nil))) (pa_cons pe_int pa_nil))) pe_int) (fun _ _ => rfl)))))), ?_⟩
    refine ⟨_, rfl, .inl ⟨rfl, _, SqL.of hq⟩, _, rfl, _, rfl, by show 2 ≤ sizeLine; decide, fun t ht => ?_⟩
    have hqt : q ≠ t := ne_of_none hq ht
    refine ⟨q, ps, _, rfl, rfl, (upd_ne hqt).trans hq, Nat.lt_of_lt_of_le hl (by decide), ?_⟩
    obtain ⟨H1, e1⟩ : ∃ H1, H1 = upd (upd H t (.tup [x, y])) q (.lst (ps ++ [.ref t])) := ⟨_, rfl⟩
    have hQ := hQ t
    have ek : EK H H1 := by
      rw [e1]
      exact (EK.same (Same.new ht)).trans (EK.wr ((upd_ne hqt).trans hq) fun w xs z => by cases z)
    have hS1 := hS.ek ek
    have hq1 : H1 q = some (.lst (ps ++ [.ref t])) := by rw [e1]; exact upd_same
    rw [← e1]
    rw [← e1] at hQ
    have hQ' : ∀ H', Same H1 H' → Q (.int (Mir.lieI ns (ps.length + 1))) H' := fun H' s => hQ H' ht s
    clear hQ e1
    have lq : (ps ++ [V.ref t]).length = ps.length + 1 := by simp
    refine ⟨_, rfl, _, rfl, q, _, rfl, .inl (SqL.of hq1), a, ns, ps.length + 1, by rw [lq]; rfl, hS1.sq, hz, fun H2 s2 => ?_⟩
    refine ⟨_, rfl, q, _, rfl, .inl (SqL.of (s2 _ _ hq1)), _, ps.length + 1, by rw [lq]; rfl, ?_⟩
    obtain ⟨m, em⟩ : ∃ m, m = Mir.drawn (Mir.cellI ns (ps.length + 1)) (ps.length + 1) := ⟨_, rfl⟩
    obtain ⟨r0, er0⟩ : ∃ r0, r0 = Mir.drawn (Mir.cellI ns 1) 1 := ⟨_, rfl⟩
    have hQ2 : ∀ z H', z = (if r0 % 4 = 0 then m % 3 - 1 else if r0 % 4 = 1 then 1 else if r0 % 4 = 2 then -1 else m % 7 - 3) → Same H1 H' → Q (.int z) H' := fun z H' ez s => by
      have h := hQ' H' s
      have e : Mir.lieI ns (ps.length + 1) = z := by
        rw [ez, em, er0]
        rfl
      rw [e] at h
      exact h
    rw [← em]
    refine ⟨_, rfl, _, _, m % 3, rfl, rfl, (by show (0 : Int) < 3; decide), rfl, _, _, _, rfl, rfl, rfl, ?_⟩
    refine ⟨_, _, _, rfl, rfl, rfl, ?_⟩
    refine ⟨_, rfl, _, _, m % 7, rfl, rfl, (by show (0 : Int) < 7; decide), rfl, _, _, _, rfl, rfl, rfl, ?_⟩
    refine ⟨by show 4 ≤ sizeLine; decide, fun p np => ?_⟩
    have s3 := s2.trans (Same.new (o := .lst [.int (m % 3 - 1), .int 1, .int (0 - 1), .int (m % 7 - 3)]) np)
    refine ⟨_, rfl, a, ns, 1, rfl, (hS1.ek (EK.same s3)).sq, hz, fun H4 s4 => ?_⟩
    refine ⟨_, 1, rfl, ?_⟩
    rw [← er0]
    have s5 := s3.trans s4
    have hp : H4 p = some (.lst [.int (m % 3 - 1), .int 1, .int (0 - 1), .int (m % 7 - 3)]) := s4 _ _ upd_same
    obtain ⟨r, hr4, er⟩ : ∃ r : Nat, r < 4 ∧ r0 % 4 = (r : Int) := ⟨(r0 % 4).toNat, by omega, by omega⟩
    refine ⟨_, _, (r : Int), rfl, rfl, (by show (0 : Int) < 4; decide), er.symm, ?_⟩
    rw [er] at hQ2
    have hh : r = 0 ∨ r = 1 ∨ r = 2 ∨ r = 3 := by omega
    rcases hh with h | h | h | h <;> subst h
    · exact ⟨p, _, _, _, rfl, rfl, SqL.of hp, rfl, hQ2 _ _ rfl s5⟩
    · exact ⟨p, _, _, _, rfl, rfl, SqL.of hp, rfl, hQ2 _ _ rfl s5⟩
    · exact ⟨p, _, _, _, rfl, rfl, SqL.of hp, rfl, hQ2 _ _ rfl s5⟩
    · exact ⟨p, _, _, _, rfl, rfl, SqL.of hp, rfl, hQ2 _ _ rfl s5⟩
end
end Ord

set_option pp.deepTerms false
set_option pp.maxSteps 1500
/-! list.remove of an element read off the heap -/
namespace Ord
open PySem PySem.Spec PyProof.Rows L2
open PySem.AutoSeq1 (wpAny_loadPart')
theorem rem_turn (l : Addr) (items : Array Value) (n : Nat) (x : Value) (e : Nat → Bool) (j : Nat) (hj : j < items.size) (hit : e j = true) (k : Nat) (hs1 : items.size ≤ sizeLine) :
    ∀ i : Nat, j - i = k → i ≤ j → (∀ m (hm : m < items.size), i ≤ m → m < j → e m = false) → Meets (Builtin.«list.remove.loop» ⟨[.ref l, x, rawInt i], []⟩)
      (fun A R s => s.heap.get? l = some { cls := .type "list", dict := none, data := .seq items n, slots := #[] } ∧ (∀ j (hj : j < items.size), SeqAt.EqAt A.in1 s items[j] x (e j)) ∧ R (.ok (.ret .none)) { s with heap := s.heap.update l (Obj.mapSeq fun xs => xs.eraseIdxIfInBounds j) }) := by
  induction k with
  | zero =>
    intro i hk hij hno prog w A R s h
    obtain ⟨hp, g, d, tk, os⟩ := s; obtain ⟨hl, he, h⟩ := h
    have hij' : i = j := by omega
    subst hij'
    wp_walk using wpAny_loadPart' hl
    have hi : items[((i : Nat) : Int).toNat]? = some items[i] := by simp [hj]
    rw [hi]
    refine wpAny_bind (he i hj prog w _ _ ?_)
    rw [hit]
    have hz' : (items.eraseIdxIfInBounds i).size ≤ sizeLine + 1 := Nat.le_trans (MeetsSeq.size_erased items _) (Nat.le_succ_of_le hs1)
    wp_walk using (wpAny_updateSeq hl rfl (hz := hs1) (_hz' := hz')), wpAny_loadPart' hl
    simpa using h
  | succ k ih =>
    intro i hk hij hno prog w A R s h
    obtain ⟨hp, g, d, tk, os⟩ := s; obtain ⟨hl, he, h⟩ := h
    have hlt : i < items.size := by omega
    wp_walk using wpAny_loadPart' hl
    have hi : items[((i : Nat) : Int).toNat]? = some items[i] := by simp [hlt]
    have hc : ((i : Int) + 1) = ((i + 1 : Nat) : Int) := by push_cast; rfl
    rw [hi]
    refine wpAny_bind (he i hlt prog w _ _ ?_)
    rw [hno i hlt (Nat.le_refl _) (by omega)]
    wp_walk
    rw [hc]
    exact ⟨plainId_quiet MeetsSeq.plain_remove_loop _, codeAny_builtin MeetsSeq.entry_remove_loop (by
      rw [Around.under_plainId MeetsSeq.plain_remove_loop _]
      exact ih (i + 1) (by omega) (by omega) (fun m hm h1 h2 => hno m hm (by omega) h2) prog w A R _ ⟨hl, he, h⟩)⟩
theorem rem_at (l : Addr) (items : Array Value) (n : Nat) (x : Value) (e : Nat → Bool) (j : Nat) (hj : j < items.size) (hit : e j = true) (hno : ∀ m (hm : m < items.size), m < j → e m = false) (hs1 : items.size ≤ sizeLine) :
    Meets (Builtin.«list.remove» ⟨[.ref l, x], []⟩)
      (fun A R s => s.heap.get? l = some { cls := .type "list", dict := none, data := .seq items n, slots := #[] } ∧ (∀ j (hj : j < items.size), SeqAt.EqAt A.in1 s items[j] x (e j)) ∧ R (.ok (.ret .none)) { s with heap := s.heap.update l (Obj.mapSeq fun xs => xs.eraseIdxIfInBounds j) }) := by
  intro prog w A R s h
  obtain ⟨hp, g, d, tk, os⟩ := s; obtain ⟨hl, he, h⟩ := h
  wp_walk using wpAny_loadPart' hl
  exact ⟨plainId_quiet MeetsSeq.plain_remove_loop _, codeAny_builtin MeetsSeq.entry_remove_loop (by
    rw [Around.under_plainId MeetsSeq.plain_remove_loop _]
    exact rem_turn l items n x e j hj hit _ hs1 0 rfl (Nat.zero_le _) (fun m hm _ h2 => hno m hm h2) prog w A R _ ⟨hl, he, h⟩)⟩
def rRemD (K : PySem.W.Frag) : V → List V → Hp → VK → Prop := fun x xs H Q => ∃ (l : Addr) (vs : List V) (y : V) (d : PyData) (ds : List PyData) (j : Nat) (z : PyData), x = .ref l ∧ xs = [y] ∧ H l = some (.lst vs) ∧ DpAll K H vs ds ∧ Dp K H y d ∧
  SeqAt.shaped (.list ds) = true ∧ SeqAt.shaped d = true ∧ ds[j]? = some z ∧ PyData.eqv z d = true ∧ (∀ (m : Nat) (z' : PyData), m < j → ds[m]? = some z' → PyData.eqv z' d = false) ∧ Q .non (upd H l (.lst (vs.eraseIdx j)))
theorem mt_removeD {X : Cx} (hu : X.A.units + 65 < cLine) : MtM X "list.remove" (rRemD X.K) := by
  intro pins s σ H x xs v us Q I rx rxs h
  obtain ⟨l, vs, y, d, ds, j, z, rfl, rfl, hH, ha, hy, sl, sd, hz, hzj, hno, q⟩ := h
  cases rx
  obtain ⟨uy, rfl, ry⟩ := rxs.one
  obtain ⟨bs, r1⟩ := Dp.reads I d y uy hy ry
  have hxs : PyData.canLayAll0 ds = true := SeqAt.canLay_of_shaped sl
  have hroom : X.A.units + 1 + min (PyData.depthAll ds) d.depth < cLine := room_in_shaped sd hu
  obtain ⟨zl, its, n, rv, hl, e⟩ := I.lstM hH
  obtain ⟨as, h4⟩ := Dp.readsAll I ds _ its ha rv
  have hn : its.length = ds.length := SeqAt.ReadsAll.length ds its as h4
  have hmap : its.map (SeqAt.readOf s.heap) = ds := SeqAt.readsAll_map ds its as hxs h4
  have hvl := rv.length
  obtain ⟨hjd, _⟩ := List.getElem?_eq_some_iff.mp hz
  have hjl : j < its.length := by omega
  have hj : j < its.toArray.size := by simpa using hjl
  have at_ : ∀ (m : Nat) (hm : m < its.toArray.size) (z' : PyData), ds[m]? = some z' → SeqAt.readOf s.heap its.toArray[m] = z' := by
    intro m hm z' hz'
    have hml : m < its.length := by simpa using hm
    rw [← hmap, List.getElem?_map, List.getElem?_eq_getElem hml] at hz'
    have e1 : SeqAt.readOf s.heap its[m] = z' := Option.some.inj (show some (SeqAt.readOf s.heap its[m]) = some z' from hz')
    simpa using e1
  refine call_meets PySem.F.slot_list_remove ⟨_, e, rfl⟩ PySem.F.entry_list_remove (PySem.F.args_list_remove_2 _ _)
    (rem_at l its.toArray n uy (fun i => match ds[i]? with | some z' => PyData.eqv z' d | none => false) j hj ?_ ?_ (by rw [List.size_toArray]; omega)) ⟨e, ?_, ?_⟩
  · rw [hz]
    exact hzj
  · intro m hm hmj
    have hmd : m < ds.length := by omega
    have hz' : ds[m]? = some ds[m] := List.getElem?_eq_getElem hmd
    rw [hz']
    exact hno m _ hmj hz'
  · intro m hm
    have h5 := SeqAt.items_eqAt (vs := its.toArray) (show ReadsAll s.heap its.toArray.toList ds as from h4) r1 hxs (SeqAt.canLay_of_shaped sd) hroom
    have hmd : m < ds.length := by
      have : m < its.length := by simpa using hm
      omega
    have hz' : ds[m]? = some ds[m] := List.getElem?_eq_getElem hmd
    have h6 := h5 its.toArray[m] (Array.getElem_mem hm)
    rw [at_ m hm _ hz'] at h6
    rw [hz']
    exact h6
  · have rr := rv.eraseIdx j
    refine ⟨.non, _, I.lset (its' := its.eraseIdx j) (t' := s.toks) hH e ?_ rr ?_, rfl, q⟩
    · show its.toArray.eraseIdxIfInBounds j = (its.eraseIdx j).toArray
      rw [List.eraseIdxIfInBounds_toArray]
    · have h7 := List.length_eraseIdx_le vs j
      omega
end Ord

namespace Ord
open PySem PySem.Spec PyProof.Rows L2 LamX
section
variable {P : Program} {w : World} {K : PySem.W.Frag} {mg : Str → Option Value} {base : Heap}
theorem Els.sub {c : V → Int × Int} {xs ys : List V} {H : Hp} (h : Els c ys H) (s : ∀ x ∈ xs, x ∈ ys) : Els c xs H := fun x hx => h x (s x hx)
/-! ### _law_alike -/
def N__law_alike : List Str := ["_law_one", "_law_other", "_law_left", "_law_element"]
theorem sc__law_alike : FnScope ["_law_one", "_law_other", "_law_left", "_law_element"] ["_law_one", "_law_other"] (defScope st__law_alike) := ⟨rfl, rfl, rfl, by decide +kernel, rfl, by decide +kernel, by decide +kernel⟩
def spAlike (K : PySem.W.Frag) : Sp := fun vs H Q _ => ∃ (a b : Addr) (xs ys : List V) (c : V → Int × Int), vs = [.ref a, .ref b] ∧ SqL K H a xs ∧ SqL K H b ys ∧ Els c xs H ∧ Els c ys H ∧ ys.length ≤ 1000 ∧ (xs.map c).Perm (ys.map c) ∧
  ∀ H', Same H H' → Q (.bl true) H'
theorem ok_alike (d__law_alike : Df K mg "_law_alike" st__law_alike ["_law_one", "_law_other"]) (mList : mg "list" = none) : FnOk P w K mg base CX0 1 d__law_alike.f d__law_alike.fd ["_law_one", "_law_other"] (spAlike K) := by
  refine d__law_alike.F.ok sc__law_alike (fun vs H Q E h => ?_) (fun cdv A outer s H vs Q E hr h => ?_)
  · obtain ⟨a, b, xs, ys, c, rfl, _⟩ := h
    rfl
  · obtain ⟨a, b, xs, ys, c, rfl, hS, hS2, hE, hE2, hz, hp, hQ⟩ := h
    have nd := sc__law_alike.nd
    refine ⟨_, (pss_cons (ps_set (i := 2) nd rfl (Or.inl rfl) (pe_callTy call_list_of (by rfl) mList (by decide +kernel) (pa_cons (pv 1) pa_nil)))
  (pss_cons (ps_for PassesOwn.never rfl (pi_list (pv 0)) (pg_name (i := 3) nd rfl (Or.inl rfl))
    (pss_cons (ps_if (pt_cmpR (op_notInD (hu65 hr)) (pv 3) (pv 2) (by rfl))
    (pss_one (ps_ret pe_bl))
    pss_nil)
  (pss_one (ps_expr (pe_bm PySem.F.plainAttrs_list PySem.F.slot_list_remove PySem.F.type_list_remove (mt_removeD (hu65 hr)) (pv 2) (pa_cons (pv 3) pa_nil))))))
  (pss_one (ps_ret (pe_cmpR (op_eqD hr.units) (pv 2) (pe_lst pa_nil) (nomark _)))))), ?_⟩
    refine ⟨_, rfl, b, ys, rfl, .inl hS2, fun m nm => ?_⟩
    have s0 := Same.new (o := .lst ys) nm
    refine ⟨_, rfl, a, rfl, ⟨_, s0.seq hS⟩, ?_⟩
    refine for_list (K := K) (a := a) (xs := xs) (fun i σ H' => ∃ (v3 : Option V) (L : List V), σ = [some (.ref a), some (.ref b), some (.ref m), v3] ∧ Same H H' ∧ H' m = some (.lst L) ∧ Els c L H' ∧ L.length ≤ 1000 ∧ ((xs.drop i).map c).Perm (L.map c))
      ⟨none, ys, rfl, s0, upd_same, hE2.tk (Same.tk s0), hz, by rw [List.drop_zero]; exact hp⟩ (fun i σ H' _ ⟨_, _, _, s1, _⟩ => s1.seq hS) ?_ ?_
    · rintro i x σ H1 hi ⟨v3, L, rfl, s1, h1, hL, hl, hpm⟩
      rw [Mir.drop_cons hi, List.map_cons] at hpm
      have hx := (hE x (List.mem_of_getElem? hi)).tk (Same.tk s1)
      refine ⟨_, rfl, _, rfl, _, _, dp_el hx.1, dp_row (SqL.of h1) hL, shaped_pd _, shaped_row c _, _, rfl, ?_⟩
      rw [any_pd, decide_eq_true (hpm.subset List.mem_cons_self)]
      refine iteF ?_
      obtain ⟨j, z, e1, e2, e3, e4⟩ := Mir.perm_erase_at hpm
      refine ⟨_, rfl, .inl ⟨rfl, _, SqL.of h1⟩, _, rfl, m, L, x, pd (c x), L.map (fun x => pd (c x)), j, pd (c z), rfl, rfl, h1, dp_els hL, dp_el hx.1, shaped_row c _, shaped_pd _, by rw [List.getElem?_map, e1]; rfl, by rw [eqv_pd, e2, decide_eq_true rfl], fun n z' hn hz' => ?_, ?_⟩
      · rw [List.getElem?_map] at hz'
        obtain ⟨y, ey, rfl⟩ := Option.map_eq_some_iff.mp hz'
        rw [eqv_pd, decide_eq_false (e3 n y hn ey)]
      · have k1 : Same H (upd H1 m (.lst (L.eraseIdx j))) := fun b o e => by
          rw [upd_ne (ne_of_none e nm)]
          exact s1 _ _ e
        have kT : TK H1 (upd H1 m (.lst (L.eraseIdx j))) := TK.wr h1 nf_lst
        refine ⟨_, _, rfl, k1, upd_same, (hL.sub fun x hx => List.mem_of_mem_eraseIdx hx).tk kT, ?_, e4⟩
        have := List.length_eraseIdx_le L j
        omega
    · rintro σ H1 ⟨v3, L, rfl, s1, h1, hL, hl, hpm⟩
      rw [List.drop_length, List.map_nil] at hpm
      have eL : L = [] := by
        have h := hpm.length_eq
        rw [List.length_nil, List.length_map] at h
        exact List.length_eq_zero_iff.mp h.symm
      subst eL
      refine ⟨_, rfl, Nat.zero_le _, fun p np => ?_⟩
      refine ⟨.list [], .list [], .lst (SqL.of ((upd_ne (ne_of_none h1 np)).trans h1)) .nil, .lst (SqL.of upd_same) .nil, shaped_nil, shaped_nil, ?_⟩
      rw [show PyData.eqv (.list []) (.list []) = true from by rw [PyData.eqv, PyData.eqvAll]]
      exact hQ _ (s1.trans (Same.new np))
end
end Ord

/-! heaps: the mathematics of push, sunk, pop, heaped -/
namespace Mir
section
variable {α : Type} {key : α → Int}
theorem set_perm : ∀ (xs : List α) (i : Nat) (x y : α), xs[i]? = some x → (x :: xs.set i y).Perm (y :: xs)
  | [], i, x, y, h => by simp at h
  | z :: xs, 0, x, y, h => by
    simp at h
    subst h
    exact List.Perm.swap _ _ _
  | z :: xs, i + 1, x, y, h => by
    have ih := set_perm xs i x y (by simpa using h)
    rw [List.set_cons_succ]
    exact ((List.Perm.swap z x _).trans (ih.cons z)).trans (List.Perm.swap y z _)
theorem swap_perm {xs : List α} {i j : Nat} {x y : α} (hi : xs[i]? = some x) (hj : xs[j]? = some y) (n : i ≠ j) : ((xs.set i y).set j x).Perm xs := by
  have h1 := set_perm xs i x y hi
  have h2 := set_perm (xs.set i y) j y x (by rw [List.getElem?_set_ne n]; exact hj)
  exact (h2.trans h1).cons_inv
theorem swap_get {xs : List α} {i j : Nat} {x y : α} (hi : xs[i]? = some x) (hj : xs[j]? = some y) (n : i ≠ j) (k : Nat) :
    ((xs.set i y).set j x)[k]? = if k = j then some x else if k = i then some y else xs[k]? := by
  have li := (List.getElem?_eq_some_iff.mp hi).1
  have lj := (List.getElem?_eq_some_iff.mp hj).1
  by_cases e1 : k = j
  · rw [if_pos e1, e1, List.getElem?_set_self (by rw [List.length_set]; exact lj)]
  · rw [if_neg e1, List.getElem?_set_ne (fun z => e1 z.symm)]
    by_cases e2 : k = i
    · rw [if_pos e2, e2, List.getElem?_set_self li]
    · rw [if_neg e2, List.getElem?_set_ne (fun z => e2 z.symm)]
/-- no element stands ahead of the one at half its place, from place s on -/
def HeapFrom (key : α → Int) (xs : List α) (s : Nat) : Prop := ∀ (k : Nat) (x y : α), 1 ≤ k → s ≤ (k - 1) / 2 → xs[(k - 1) / 2]? = some x → xs[k]? = some y → key x ≤ key y
def HeapOk (key : α → Int) (xs : List α) : Prop := HeapFrom key xs 0
/-! ### down -/
structure Down (key : α → Int) (xs : List α) (s p : Nat) : Prop where
  le : s ≤ p
  off : ∀ (k : Nat) (x y : α), 1 ≤ k → s ≤ (k - 1) / 2 → (k - 1) / 2 ≠ p → xs[(k - 1) / 2]? = some x → xs[k]? = some y → key x ≤ key y
  up : ∀ (k : Nat) (x y : α), 1 ≤ k → (k - 1) / 2 = p → 1 ≤ p → s ≤ (p - 1) / 2 → xs[(p - 1) / 2]? = some x → xs[k]? = some y → key x ≤ key y
theorem Down.start {xs : List α} {s : Nat} (h : HeapFrom key xs (s + 1)) : Down key xs s s :=
  ⟨Nat.le_refl _, fun k x y h1 h2 h3 => h k x y h1 (by omega), fun k x y h1 h2 h3 h4 => by omega⟩
theorem Down.step {xs : List α} {s p b : Nat} {x y : α} (h : Down key xs s p) (hb : b = 2 * p + 1 ∨ b = 2 * p + 2) (hx : xs[p]? = some x) (hy : xs[b]? = some y) (hlt : ¬ key x ≤ key y)
    (hm : ∀ (k : Nat) (z : α), (k = 2 * p + 1 ∨ k = 2 * p + 2) → xs[k]? = some z → key y ≤ key z) : Down key ((xs.set p y).set b x) s b := by
  have pb : p ≠ b := by omega
  have hp : (b - 1) / 2 = p := by omega
  have g := swap_get hx hy pb
  have hle := h.le
  refine ⟨by omega, fun k u v h1 h2 h3 hu hv => ?_, fun k u v h1 h2 h3 h4 hu hv => ?_⟩
  · rw [g] at hu hv
    rw [if_neg (by omega : ¬ (k - 1) / 2 = b)] at hu
    by_cases e1 : (k - 1) / 2 = p
    · rw [if_pos e1] at hu
      cases hu
      by_cases e2 : k = b
      · rw [if_pos e2] at hv
        cases hv
        omega
      · rw [if_neg e2, if_neg (by omega : ¬ k = p)] at hv
        exact hm k v (by omega) hv
    · rw [if_neg e1] at hu
      rw [if_neg (by omega : ¬ k = b)] at hv
      by_cases e3 : k = p
      · rw [if_pos e3] at hv
        cases hv
        rw [e3] at hu h2 h1
        exact h.up b u y (by omega) hp h1 h2 hu hy
      · rw [if_neg e3] at hv
        exact h.off k u v h1 h2 e1 hu hv
  · rw [g] at hu hv
    rw [if_neg (by omega : ¬ (b - 1) / 2 = b), if_pos hp] at hu
    cases hu
    rw [if_neg (by omega : ¬ k = b), if_neg (by omega : ¬ k = p)] at hv
    exact h.off k y v h1 (by omega) (by omega) (by rw [h2]; exact hy) hv
theorem Down.none {xs : List α} {s p : Nat} (h : Down key xs s p) (hn : ¬ 2 * p + 1 < xs.length) : HeapFrom key xs s := fun k x y h1 h2 hx hy => by
  by_cases e : (k - 1) / 2 = p
  · have := (List.getElem?_eq_some_iff.mp hy).1
    omega
  · exact h.off k x y h1 h2 e hx hy
theorem Down.stop {xs : List α} {s p : Nat} {x y : α} (h : Down key xs s p) (hx : xs[p]? = some x) (hle : key x ≤ key y) (hm : ∀ (k : Nat) (z : α), (k = 2 * p + 1 ∨ k = 2 * p + 2) → xs[k]? = some z → key y ≤ key z) : HeapFrom key xs s := fun k u v h1 h2 hu hv => by
  by_cases e : (k - 1) / 2 = p
  · rw [e, hx] at hu
    cases hu
    have := hm k v (by omega) hv
    omega
  · exact h.off k u v h1 h2 e hu hv
/-! ### up -/
structure Up (key : α → Int) (xs : List α) (p : Nat) : Prop where
  off : ∀ (k : Nat) (x y : α), 1 ≤ k → k ≠ p → xs[(k - 1) / 2]? = some x → xs[k]? = some y → key x ≤ key y
  up : ∀ (k : Nat) (x y : α), 1 ≤ k → (k - 1) / 2 = p → 1 ≤ p → xs[(p - 1) / 2]? = some x → xs[k]? = some y → key x ≤ key y
theorem Up.start {xs : List α} {e : α} (h : HeapOk key xs) : Up key (xs ++ [e]) xs.length := by
  refine ⟨fun k x y h1 h2 hx hy => ?_, fun k x y h1 h2 h3 hx hy => ?_⟩
  · have hl := (List.getElem?_eq_some_iff.mp hy).1
    simp only [List.length_append, List.length_singleton] at hl
    rw [List.getElem?_append_left (by omega)] at hx hy
    exact h k x y h1 (Nat.zero_le _) hx hy
  · have hl := (List.getElem?_eq_some_iff.mp hy).1
    simp only [List.length_append, List.length_singleton] at hl
    omega
theorem Up.step {xs : List α} {p : Nat} {x y : α} (h : Up key xs p) (h0 : 1 ≤ p) (hx : xs[(p - 1) / 2]? = some x) (hy : xs[p]? = some y) (hlt : ¬ key x ≤ key y) : Up key ((xs.set ((p - 1) / 2) y).set p x) ((p - 1) / 2) := by
  have n : (p - 1) / 2 ≠ p := by omega
  have g := swap_get hx hy n
  refine ⟨fun k u v h1 h2 hu hv => ?_, fun k u v h1 h2 h3 hu hv => ?_⟩
  · rw [g] at hu hv
    by_cases e1 : k = p
    · rw [if_pos e1] at hv
      cases hv
      rw [if_neg (by omega : ¬ (k - 1) / 2 = p), if_pos (by rw [e1])] at hu
      cases hu
      omega
    · rw [if_neg e1, if_neg h2] at hv
      by_cases e2 : (k - 1) / 2 = p
      · rw [if_pos e2] at hu
        cases hu
        exact h.up k x v h1 e2 h0 hx hv
      · rw [if_neg e2] at hu
        by_cases e3 : (k - 1) / 2 = (p - 1) / 2
        · rw [if_pos e3] at hu
          cases hu
          have := h.off k x v h1 e1 (by rw [e3]; exact hx) hv
          omega
        · rw [if_neg e3] at hu
          exact h.off k u v h1 e1 hu hv
  · rw [g] at hu hv
    rw [if_neg (by omega : ¬ ((p - 1) / 2 - 1) / 2 = p), if_neg (by omega : ¬ ((p - 1) / 2 - 1) / 2 = (p - 1) / 2)] at hu
    have h5 := h.off ((p - 1) / 2) u x h3 n hu hx
    by_cases e1 : k = p
    · rw [if_pos e1] at hv
      cases hv
      exact h5
    · rw [if_neg e1, if_neg (by omega : ¬ k = (p - 1) / 2)] at hv
      have h6 := h.off k x v h1 e1 (by rw [h2]; exact hx) hv
      omega
theorem Up.zero {xs : List α} (h : Up key xs 0) : HeapOk key xs := fun k x y h1 _ hx hy => h.off k x y h1 (by omega) hx hy
theorem Up.stop {xs : List α} {p : Nat} {x y : α} (h : Up key xs p) (hx : xs[(p - 1) / 2]? = some x) (hy : xs[p]? = some y) (hle : key x ≤ key y) : HeapOk key xs := fun k u v h1 _ hu hv => by
  by_cases e : k = p
  · rw [e] at hu hv
    rw [hx] at hu
    rw [hy] at hv
    cases hu
    cases hv
    exact hle
  · exact h.off k u v h1 e hu hv
/-! ### pop -/
theorem pop_perm {h0 z : α} {t : List α} (hz : (h0 :: t).getLast? = some z) (hne : t ≠ []) : (((h0 :: t).dropLast).set 0 z).Perm t := by
  cases t with
  | nil => exact absurd rfl hne
  | cons a t =>
    rw [List.dropLast_cons_of_ne_nil (by simp), List.set_cons_zero]
    rw [List.getLast?_cons_cons] at hz
    have h1 : (a :: t).dropLast ++ [z] = a :: t := by
      obtain ⟨r, er⟩ := List.getLast?_eq_some_iff.mp hz
      rw [er]
      simp
    have h2 : (z :: (a :: t).dropLast).Perm ((a :: t).dropLast ++ [z]) := (List.perm_append_comm (l₁ := [z]) (l₂ := (a :: t).dropLast))
    rw [h1] at h2
    exact h2
theorem pop_heap {xs : List α} {z : α} (h : HeapOk key xs) : HeapFrom key (xs.dropLast.set 0 z) 1 := fun k x y h1 h2 hx hy => by
  rw [List.getElem?_set_ne (by omega)] at hx hy
  have l1 := (List.getElem?_eq_some_iff.mp hx).1
  have l2 := (List.getElem?_eq_some_iff.mp hy).1
  rw [List.length_dropLast] at l1 l2
  rw [List.getElem?_dropLast, if_pos (by omega)] at hx hy
  exact h k x y h1 (Nat.zero_le _) hx hy
theorem heap_root {xs : List α} (h : HeapOk key xs) {r : α} (hr : xs[0]? = some r) : ∀ (k : Nat) (y : α), xs[k]? = some y → key r ≤ key y := by
  intro k
  induction k using Nat.strongRecOn with
  | _ k ih =>
    intro y hy
    by_cases h0 : k = 0
    · rw [h0, hr] at hy
      cases hy
      exact Int.le_refl _
    · obtain ⟨x, hx⟩ : ∃ x, xs[(k - 1) / 2]? = some x := by
        have := (List.getElem?_eq_some_iff.mp hy).1
        exact ⟨_, List.getElem?_eq_getElem (by omega)⟩
      have h1 := ih ((k - 1) / 2) (by omega) x hx
      have h2 := h k x y (by omega) (Nat.zero_le _) hx hy
      omega
theorem heap_nil {s : Nat} (xs : List α) (h : ¬ 2 * s + 1 < xs.length) : HeapFrom key xs s := fun k x y h1 h2 hx hy => by
  have := (List.getElem?_eq_some_iff.mp hy).1
  omega
theorem HeapFrom.ge {xs : List α} {s : Nat} (h : HeapFrom key xs 0) : HeapFrom key xs s := fun k x y h1 _ => h k x y h1 (Nat.zero_le _)
end
/-! ### counts -/
theorem log2_half {n m : Nat} (hm : 1 ≤ m) (h : 2 * m ≤ n) : Nat.log2 (n / (2 * m)) + 1 = Nat.log2 (n / m) := by
  have e : n / (2 * m) = n / m / 2 := by rw [Nat.mul_comm, Nat.div_div_eq_div_mul]
  have h2 : 2 ≤ n / m := (Nat.le_div_iff_mul_le (by omega)).mpr (by omega)
  rw [e]
  conv => rhs; rw [Nat.log2_def, if_pos h2]
theorem log2_mono {a b : Nat} (h : a ≤ b) : Nat.log2 a ≤ Nat.log2 b := by
  by_cases ha : a = 0
  · rw [ha]; simp
  · exact (Nat.le_log2 (by omega)).mpr (Nat.le_trans ((Nat.le_log2 ha).mp (Nat.le_refl _)) h)
theorem log2_clog (m : Nat) : Nat.log2 m ≤ clog (m + 1) := by
  by_cases h0 : m = 0
  · rw [h0]; simp
  · have h := (Nat.le_log2 h0).mp (Nat.le_refl (Nat.log2 m))
    exact Nat.le_of_lt ((clog_lt _ _).mp (by omega))
theorem log2_step {n p b : Nat} (hb : b = 2 * p + 1 ∨ b = 2 * p + 2) (h : 2 * p + 1 < n) : Nat.log2 (n / (b + 1)) + 1 ≤ Nat.log2 (n / (p + 1)) := by
  rw [← log2_half (n := n) (m := p + 1) (by omega) (by omega)]
  exact Nat.succ_le_succ (log2_mono (Nat.div_le_div_left (by omega) (by omega)))
/-- the levels below the places up to k -/
def lvs (n : Nat) : Nat → Nat
  | 0 => 0
  | k + 1 => lvs n k + Nat.log2 (n / (k + 1))
theorem lvs_step (n : Nat) : ∀ k, lvs n k ≤ min k (n / 2) + lvs (n / 2) k
  | 0 => Nat.zero_le _
  | k + 1 => by
    have ih := lvs_step n k
    unfold lvs
    by_cases h : k + 1 ≤ n / 2
    · have h2 : 2 ≤ n / (k + 1) := (Nat.le_div_iff_mul_le (by omega)).mpr (by omega)
      have e : n / (k + 1) / 2 = n / 2 / (k + 1) := by rw [Nat.div_div_eq_div_mul, Nat.div_div_eq_div_mul, Nat.mul_comm]
      rw [Nat.log2_def (n / (k + 1)), if_pos h2, e]
      omega
    · have h2 : n / (k + 1) < 2 := (Nat.div_lt_iff_lt_mul (by omega)).mpr (by omega)
      rw [Nat.log2_def (n / (k + 1)), if_neg (by omega)]
      omega
theorem lvs_le (n : Nat) : ∀ k, lvs n k ≤ n := by
  induction n using Nat.strongRecOn with
  | _ n ih =>
    intro k
    by_cases h0 : n = 0
    · have : ∀ k, lvs 0 k = 0 := fun k => by
        induction k with
        | zero => rfl
        | succ k ih => unfold lvs; rw [ih]; simp
      rw [h0, this]
      exact Nat.le_refl _
    · have h1 := lvs_step n k
      have h2 := ih (n / 2) (by omega) k
      omega
end Mir

set_option pp.deepTerms false
set_option pp.maxSteps 1500
namespace Ord
open PySem PySem.Spec PyProof.Rows L2 LamX
theorem ixN_nat {n j : Nat} (h : j < n) : ixN n (j : Int) = some j := by
  unfold ixN
  rw [if_pos (by omega), if_pos (by omega), Int.toNat_natCast]
section
variable {P : Program} {w : World} {K : PySem.W.Frag} {mg : Str → Option Value} {base : Heap}
/-! ### is_heap -/
def spIsHeap (P : Program) (w : World) (K : PySem.W.Frag) (mg : Str → Option Value) (base : Heap) : Sp := fun vs H Q _ => ∃ (O : Orc P w K mg base) (a : Addr) (xs : List V) (l : Lg), vs = [.ref a, .ref O.f] ∧
  Row K O.q H a xs ∧ O.Log l H ∧ O.All xs H ∧ xs.length ≤ 1000 ∧ l.length + xs.length ≤ 90000 ∧
  ∀ H' b l', KB O.q H H' → O.Log l' H' → l'.length ≤ l.length + (xs.length - 1) → (∀ key, Mir.KeyA O.ans key → (b = true ↔ Mir.HeapOk key xs)) → Q (.bl b) H'
def N_is_heap : List Str := ["row", "order", "place"]
theorem sc_is_heap : FnScope ["row", "order", "place"] ["row", "order"] (defScope st_is_heap) := ⟨rfl, rfl, rfl, by decide +kernel, rfl, by decide +kernel, by decide +kernel⟩
theorem ok_is_heap (d_is_heap : Df K mg "is_heap" st_is_heap ["row", "order"]) (mLen : mg "len" = none) (mRange : mg "range" = none) : FnOk P w K mg base CX0 4 d_is_heap.f d_is_heap.fd ["row", "order"] (spIsHeap P w K mg base) := by
  refine d_is_heap.F.ok sc_is_heap (fun vs H Q E h => ?_) (fun cdv A outer s H vs Q E hr h => ?_)
  · obtain ⟨O, a, xs, l, rfl, _⟩ := h
    rfl
  · obtain ⟨O, a, xs, l, rfl, hR, hL, dx, hz, hc, k⟩ := h
    have nd := sc_is_heap.nd
    refine ⟨_, (pss_cons (ps_for PassesOwn.never rfl (pi_range2 (by rfl) mRange (pa_cons pe_int (pa_cons (pe_len mLen (pv 0)) pa_nil))) (pg_name (i := 2) nd rfl (Or.inl rfl))
    (pss_one (ps_if (pt_cmpR op_gt (pe_callV O.run (hr.mono (by decide)) (pa_cons (pe_ix ix_list (pv 0) (pe_op op_fdivE (pe_op op_subE (pv 2) pe_int) pe_int) (fun _ _ => rfl)) (pa_cons (pe_ix ix_list (pv 0) (pv 2) (fun _ _ => rfl)) pa_nil)) (i := 1)) pe_int (nomark _))
    (pss_one (ps_ret pe_bl))
    pss_nil)))
  (pss_one (ps_ret pe_bl))), ?_⟩
    refine ⟨_, rfl, a, xs, rfl, .inl hR.1, (1 : Int), (xs.length : Int), rfl, ⟨by omega, by omega, by omega, by omega⟩, ?_⟩
    refine for_range (lo := 1) (n := ((xs.length : Int) - 1).toNat) (fun i σ H' => ∃ (v2 : Option V) (l' : Lg), σ = [some (.ref a), some (.ref O.f), v2] ∧ KB O.q H H' ∧ O.Log l' H' ∧ l'.length = l.length + i ∧ ∀ key, Mir.KeyA O.ans key → ∀ (j : Nat) (x y : V), 1 ≤ j → j ≤ i → xs[(j - 1) / 2]? = some x → xs[j]? = some y → key x ≤ key y)
      ⟨none, l, rfl, KB.refl _ _, hL, rfl, fun key A j x y h1 h2 => by omega⟩ ?_ ?_
    · rintro i σ H1 hi ⟨v2, l', rfl, kb, hL', hl, hk⟩
      rw [show ((1 : Int) + (i : Nat)) = ((i + 1 : Nat) : Int) by omega]
      have hi' : i + 1 < xs.length := by omega
      obtain ⟨x, ex⟩ : ∃ x, xs[i / 2]? = some x := ⟨_, List.getElem?_eq_getElem (by omega)⟩
      obtain ⟨y, ey⟩ : ∃ y, xs[i + 1]? = some y := ⟨_, List.getElem?_eq_getElem hi'⟩
      have hS := (hR.kb kb).1
      refine ⟨rfl, O.isf hL', _, rfl, _, rfl, _, _, (i : Int), rfl, rfl, (by show (i : Int) = ((i + 1 : Nat) : Int) - 1; omega), _, _, ((i / 2 : Nat) : Int), rfl, rfl, ⟨by decide, by decide⟩, (by show ((i / 2 : Nat) : Int) = (i : Int) / 2; omega), a, xs, _, x, rfl, rfl, hS, atI_nat ex, _, rfl, _, rfl, a, xs, _, y, rfl, rfl, hS, atI_nat ey, O.isf hL', x, y, l', rfl, hL', by omega, (dx.tk kb.tk).get ex, (dx.tk kb.tk).get ey, fun H2 kb2 hL2 => ?_⟩
      refine ⟨_, _, rfl, rfl, _, rfl, ?_⟩
      have kb3 := kb.trans kb2
      refine iteD (fun h => ?_) (fun h => ?_)
      · refine k H2 false _ kb3 hL2 (by rw [List.length_append, List.length_singleton]; omega) fun key A => ⟨(fun z => by cases z), fun z => ?_⟩
        have h1 := z (i + 1) x y (by omega) (Nat.zero_le _) (by rw [Nat.add_sub_cancel]; exact ex) ey
        have h2 := (A.pos l' x y).mp h
        omega
      · refine ⟨_, _, rfl, kb3, hL2, by rw [List.length_append, List.length_singleton]; omega, fun key A j u v h1 h2 hu hv => ?_⟩
        by_cases e : j = i + 1
        · rw [e] at hu hv
          rw [Nat.add_sub_cancel, ex] at hu
          rw [ey] at hv
          cases hu
          cases hv
          have h3 : ¬ key y < key x := fun q => h ((A.pos l' x y).mpr q)
          omega
        · exact hk key A j u v h1 (by omega) hu hv
    · rintro σ H1 ⟨v2, l', rfl, kb, hL', hl, hk⟩
      refine k H1 true l' kb hL' (by omega) fun key A => ⟨fun _ j x y h1 _ hx hy => ?_, fun _ => rfl⟩
      have := (List.getElem?_eq_some_iff.mp hy).1
      exact hk key A j x y h1 (by omega) hx hy
/-! ### sunk -/
def spSunk (P : Program) (w : World) (K : PySem.W.Frag) (mg : Str → Option Value) (base : Heap) : Sp := fun vs H Q _ => ∃ (O : Orc P w K mg base) (a : Addr) (xs : List V) (pc : Nat) (l : Lg), vs = [.ref a, .int (pc : Int), .ref O.f] ∧
  Row K O.q H a xs ∧ O.Log l H ∧ O.All xs H ∧ xs.length ≤ 1000 ∧ l.length + 2 * Nat.log2 (xs.length / (pc + 1)) ≤ 90000 ∧
  ∀ H' p zs l', KB O.q H H' → H p = none → H' p = some (.lst zs) → O.Log l' H' → l'.length ≤ l.length + 2 * Nat.log2 (xs.length / (pc + 1)) → zs.Perm xs → (∀ key, Mir.KeyA O.ans key → Mir.HeapFrom key xs (pc + 1) → Mir.HeapFrom key zs pc) → Q (.ref p) H'
def N_sunk : List Str := ["row", "place", "order", "found", "below"]
theorem sc_sunk : FnScope ["row", "place", "order", "found", "below"] ["row", "place", "order"] (defScope st_sunk) := ⟨rfl, rfl, rfl, by decide +kernel, rfl, by decide +kernel, by decide +kernel⟩
theorem ok_sunk (d_sunk : Df K mg "sunk" st_sunk ["row", "place", "order"]) (mLen : mg "len" = none) (mList : mg "list" = none) : FnOk P w K mg base CX0 4 d_sunk.f d_sunk.fd ["row", "place", "order"] (spSunk P w K mg base) := by
  refine d_sunk.F.ok sc_sunk (fun vs H Q E h => ?_) (fun cdv A outer s H vs Q E hr h => ?_)
  · obtain ⟨O, a, xs, pc, l, rfl, _⟩ := h
    rfl
  · obtain ⟨O, a, xs, pc, l, rfl, hR, hL, dx, hz, hc, k⟩ := h
    have nd := sc_sunk.nd
    refine ⟨_, (pss_cons (ps_set (i := 3) nd rfl (Or.inl rfl) (pe_callTy call_list_of (by rfl) mList (by decide +kernel) (pa_cons (pv 0) pa_nil)))
  (pss_cons (ps_while PassesOwn.never (pt_cmpR op_lt (pe_op op_addE (pe_op op_mulE pe_int (pv 1)) pe_int) (pe_len mLen (pv 3)) (nomark _))
    (pss_cons (ps_set (i := 4) nd rfl (Or.inl rfl) (pe_op op_addE (pe_op op_mulE pe_int (pv 1)) pe_int))
  (C8.pss_cut (ps_if (PW.pt (pw_and (pt_cmpR op_lt (pe_op op_addE (pv 4) pe_int) (pe_len mLen (pv 3)) (nomark _)) (pw_and1 (pt_cmpR op_gt (pe_callV O.run (hr.mono (by decide)) (pa_cons (pe_ix ix_list (pv 3) (pv 4) (fun _ _ => rfl)) (pa_cons (pe_ix ix_list (pv 3) (pe_op op_addE (pv 4) pe_int) (fun _ _ => rfl)) pa_nil)) (i := 2)) pe_int (nomark _)))))
    (pss_one (ps_set (i := 4) nd rfl (Or.inl rfl) (pe_op op_addE (pv 4) pe_int)))
    pss_nil)
  (pss_cons (ps_if (pt_cmpR op_le (pe_callV O.run (hr.mono (by decide)) (pa_cons (pe_ix ix_list (pv 3) (pv 1) (fun _ _ => rfl)) (pa_cons (pe_ix ix_list (pv 3) (pv 4) (fun _ _ => rfl)) pa_nil)) (i := 2)) pe_int (nomark _))
    (pss_one (ps_ret (pv 3)))
    pss_nil)
  (pss_cons (ps_asg (pe_tup (pa_cons (pe_ix ix_list (pv 3) (pv 4) (fun _ _ => rfl)) (pa_cons (pe_ix ix_list (pv 3) (pv 1) (fun _ _ => rfl)) pa_nil))) (pg_tup (by rfl) (pgs_cons (pg_sub (pv 3) (pv 1) set_list) (pgs_cons (pg_sub (pv 3) (pv 4) set_list) pgs_nil))))
  (pss_one (ps_set (i := 1) nd rfl (Or.inl rfl) (pv 4))))))))
  (pss_one (ps_ret (pv 3))))), ?_⟩
    refine ⟨_, rfl, a, xs, rfl, .inl hR.1, fun p np => ?_⟩
    have pq : p ≠ O.q := Orc.nq hL np
    refine ⟨fun mu σ H' => ∃ (pl : Nat) (v4 : Option V) (ys : List V) (l' : Lg), σ = [some (.ref a), some (.int (pl : Nat)), some (.ref O.f), some (.ref p), v4] ∧ mu = xs.length - pl ∧ KB O.q H H' ∧ H' p = some (.lst ys) ∧ O.Log l' H' ∧ ys.Perm xs ∧ pc ≤ pl ∧ l'.length + 2 * Nat.log2 (xs.length / (pl + 1)) ≤ l.length + 2 * Nat.log2 (xs.length / (pc + 1)) ∧ ∀ key, Mir.KeyA O.ans key → Mir.HeapFrom key xs (pc + 1) → Mir.Down key ys pc pl,
      ⟨_, pc, none, xs, l, rfl, rfl, KB.new np, upd_same, O.new hL np, List.Perm.refl _, Nat.le_refl _, Nat.le_refl _, fun key A h => Mir.Down.start h⟩, ?_⟩
    rintro mu σ H1 ⟨pl, v4, ys, l', rfl, rfl, kb, hp, hL', hpm, hle, hl, hk⟩
    have ly := hpm.length_eq
    have dy : O.All ys H1 := fun z hz' => (dx.tk kb.tk) z (hpm.subset hz')
    refine ⟨_, rfl, _, _, ((2 * pl : Nat) : Int), rfl, rfl, .inl ⟨by decide, by decide⟩, (by show ((2 * pl : Nat) : Int) = 2 * (pl : Int); omega), _, _, ((2 * pl + 1 : Nat) : Int), rfl, rfl, rfl, _, rfl, p, ys, rfl, .inl (SqL.of hp), _, _, rfl, rfl, _, rfl, ?_⟩
    refine iteD (fun h => ?go) (fun h => ?stop)
    case stop =>
      refine ⟨_, rfl, ?_⟩
      exact k H1 p ys l' kb np hp hL' (by omega) hpm fun key A hf => (hk key A hf).none (by have : ¬ ((2 * pl + 1 : Nat) : Int) < (ys.length : Int) := h; omega)
    have hlt : 2 * pl + 1 < ys.length := by have : ((2 * pl + 1 : Nat) : Int) < (ys.length : Int) := h; omega
    obtain ⟨y1, ey1⟩ : ∃ y, ys[2 * pl + 1]? = some y := ⟨_, List.getElem?_eq_getElem hlt⟩
    obtain ⟨x, ex⟩ : ∃ x, ys[pl]? = some x := ⟨_, List.getElem?_eq_getElem (by omega)⟩
    have hlog : Nat.log2 (xs.length / (2 * pl + 1 + 1)) + 1 ≤ Nat.log2 (xs.length / (pl + 1)) := Mir.log2_step (.inl rfl) (by omega)
    have hlog2 : Nat.log2 (xs.length / (2 * pl + 2 + 1)) + 1 ≤ Nat.log2 (xs.length / (pl + 1)) := Mir.log2_step (.inr rfl) (by omega)
    refine ⟨_, fun _ _ h => h, ?_⟩
    refine ⟨_, rfl, _, _, ((2 * pl : Nat) : Int), rfl, rfl, .inl ⟨by decide, by decide⟩, (by show ((2 * pl : Nat) : Int) = 2 * (pl : Int); omega), _, _, ((2 * pl + 1 : Nat) : Int), rfl, rfl, rfl, ?_⟩
    -- the lesser one below
    refine ⟨fun σ H2 => ∃ (b : Nat) (y : V) (l2 : Lg), σ = [some (.ref a), some (.int (pl : Nat)), some (.ref O.f), some (.ref p), some (.int (b : Nat))] ∧ (b = 2 * pl + 1 ∨ b = 2 * pl + 2) ∧ ys[b]? = some y ∧ KB O.q H H2 ∧ H2 p = some (.lst ys) ∧ O.Log l2 H2 ∧ l2.length ≤ l'.length + 1 ∧ ∀ key, Mir.KeyA O.ans key → ∀ (j : Nat) (z : V), (j = 2 * pl + 1 ∨ j = 2 * pl + 2) → ys[j]? = some z → key y ≤ key z, ?_, ?_⟩
    · refine ⟨_, rfl, _, _, ((2 * pl + 2 : Nat) : Int), rfl, rfl, rfl, _, rfl, p, ys, rfl, .inl (SqL.of hp), _, _, rfl, rfl, _, rfl, ?_⟩
      refine iteD (fun h2 => ?_) (fun h2 => ?_)
      · have hlt2 : 2 * pl + 2 < ys.length := by have : ((2 * pl + 2 : Nat) : Int) < (ys.length : Int) := h2; omega
        obtain ⟨y2, ey2⟩ : ∃ y, ys[2 * pl + 2]? = some y := ⟨_, List.getElem?_eq_getElem hlt2⟩
        refine ⟨rfl, O.isf hL', _, rfl, _, rfl, p, ys, _, y1, rfl, rfl, SqL.of hp, atI_nat ey1, _, rfl, _, rfl, _, _, ((2 * pl + 2 : Nat) : Int), rfl, rfl, rfl, p, ys, _, y2, rfl, rfl, SqL.of hp, atI_nat ey2, O.isf hL', y1, y2, l', rfl, hL', by omega, dy.get ey1, dy.get ey2, fun H2 kb2 hL2 => ?_⟩
        have kb3 := kb.trans kb2
        have hp2 := kb2.keep _ _ pq hp
        refine ⟨_, _, rfl, rfl, _, rfl, ?_⟩
        refine iteD (fun h3 => ?_) (fun h3 => ?_)
        · refine ⟨_, rfl, _, _, ((2 * pl + 2 : Nat) : Int), rfl, rfl, rfl, 2 * pl + 2, y2, _, rfl, .inr rfl, ey2, kb3, hp2, hL2, by rw [List.length_append, List.length_singleton]; omega, fun key A j z hj hz' => ?_⟩
          have h4 := (A.pos l' y1 y2).mp h3
          rcases hj with e | e <;> rw [e] at hz'
          · rw [ey1] at hz'
            cases hz'
            omega
          · rw [ey2] at hz'
            cases hz'
            omega
        · refine ⟨2 * pl + 1, y1, _, rfl, .inl rfl, ey1, kb3, hp2, hL2, by rw [List.length_append, List.length_singleton]; omega, fun key A j z hj hz' => ?_⟩
          have h4 : ¬ key y2 < key y1 := fun q => h3 ((A.pos l' y1 y2).mpr q)
          rcases hj with e | e <;> rw [e] at hz'
          · rw [ey1] at hz'
            cases hz'
            omega
          · rw [ey2] at hz'
            cases hz'
            omega
      · refine ⟨2 * pl + 1, y1, l', rfl, .inl rfl, ey1, kb, hp, hL', by omega, fun key A j z hj hz' => ?_⟩
        have hn : ¬ ((2 * pl + 2 : Nat) : Int) < (ys.length : Int) := h2
        have lj := (List.getElem?_eq_some_iff.mp hz').1
        have e : j = 2 * pl + 1 := by omega
        rw [e, ey1] at hz'
        cases hz'
        omega
    rintro σ H2 ⟨b, y, l2, rfl, hb, ey, kb2, hp2, hL2, hl2, hmn⟩
    have dy2 : O.All ys H2 := fun z hz' => (dx.tk kb2.tk) z (hpm.subset hz')
    have lb := (List.getElem?_eq_some_iff.mp ey).1
    have hlogb : Nat.log2 (xs.length / (b + 1)) + 1 ≤ Nat.log2 (xs.length / (pl + 1)) := by rcases hb with e | e <;> rw [e] <;> assumption
    refine ⟨rfl, O.isf hL2, _, rfl, _, rfl, p, ys, _, x, rfl, rfl, SqL.of hp2, atI_nat ex, _, rfl, _, rfl, p, ys, _, y, rfl, rfl, SqL.of hp2, atI_nat ey, O.isf hL2, x, y, l2, rfl, hL2, by omega, dy2.get ex, dy2.get ey, fun H3 kb3 hL3 => ?_⟩
    have kb4 := kb2.trans kb3
    have hp3 := kb3.keep _ _ pq hp2
    refine ⟨_, _, rfl, rfl, _, rfl, ?_⟩
    refine iteD (fun h3 => ?_) (fun h3 => ?_)
    · refine ⟨_, rfl, ?_⟩
      exact k H3 p ys _ kb4 np hp3 hL3 (by rw [List.length_append, List.length_singleton]; omega) hpm fun key A hf => (hk key A hf).stop ex ((A.le l2 x y).mp h3) (hmn key A)
    -- turned about
    have pb : pl ≠ b := by omega
    refine ⟨_, rfl, _, rfl, p, ys, _, y, rfl, rfl, SqL.of hp3, atI_nat ey, _, rfl, _, rfl, p, ys, _, x, rfl, rfl, SqL.of hp3, atI_nat ex, by show 2 ≤ sizeLine; decide, fun t nt => ?_⟩
    have hp4 := kn (o := .tup [y, x]) nt hp3
    have tp : t ≠ p := fun z => by
      rw [← z, nt] at hp3
      cases hp3
    have kb5 := kb4.trans (KB.new (o := .tup [y, x]) nt)
    have hL4 := Orc.new (o := .tup [y, x]) hL3 nt
    refine ⟨t, _, rfl, SqT.of upd_same, rfl, ?_⟩
    refine ⟨_, _, rfl, _, rfl, _, rfl, p, ys, _, pl, rfl, rfl, hp4, ixN_nat (by omega), ?_⟩
    have hL5 := Orc.wr (o := .lst (ys.set pl y)) hL4 hp4 nf_lst pq
    have kb6 := KB.wr (o := .lst (ys.set pl y)) kb5 np
    refine ⟨_, _, rfl, _, rfl, _, rfl, p, ys.set pl y, _, b, rfl, rfl, upd_same, ixN_nat (by rw [List.length_set]; omega), ?_⟩
    have hL6 := Orc.wr (o := .lst ((ys.set pl y).set b x)) hL5 upd_same nf_lst pq
    have kb7 := KB.wr (o := .lst ((ys.set pl y).set b x)) kb6 np
    refine ⟨rfl, _, rfl, _, by omega, b, _, _, _, rfl, rfl, kb7, upd_same, hL6, (Mir.swap_perm ex ey pb).trans hpm, by omega, by rw [List.length_append, List.length_singleton]; omega, fun key A hf => ?_⟩
    exact (hk key A hf).step hb ex ey (fun z => h3 ((A.le l2 x y).mpr z)) (hmn key A)
end
end Ord

namespace Ord
open PySem PySem.Spec PyProof.Rows L2 LamX
theorem ps_dead {X : Cx} {st : Stmt} : PS X st (fun _ _ _ => False) := ⟨fun pins s σ H D I h => h.elim⟩
/-- a row that may be looked at as data -/
def Dat (K : PySem.W.Frag) (xs : List V) (H : Hp) : Prop := ∀ H', TK H H' → ∃ ds, DpAll K H' xs ds ∧ SeqAt.shaped (.list ds) = true
theorem Dat.tk {K : PySem.W.Frag} {xs : List V} {H H' : Hp} (h : Dat K xs H) (k : TK H H') : Dat K xs H' := fun H2 k2 => h H2 (k.trans k2)
theorem eqv_cons_nil (d : PyData) (ds : List PyData) : PyData.eqv (.list (d :: ds)) (.list []) = false := by
  rw [PyData.eqv, PyData.eqvAll]
/-- so may rows of its elements -/
def DatS (K : PySem.W.Frag) (xs : List V) (H : Hp) : Prop := ∀ ys, (∀ y ∈ ys, y ∈ xs) → Dat K ys H
theorem DatS.tk {K : PySem.W.Frag} {xs : List V} {H H' : Hp} (h : DatS K xs H) (k : TK H H') : DatS K xs H' := fun ys s => (h ys s).tk k
theorem DatS.of {K : PySem.W.Frag} {xs : List V} {H : Hp} {c : V → Int × Int} (h : Els c xs H) : DatS K xs H := fun ys s H' k => ⟨_, dp_els fun y hy => (h y (s y hy)).tk k, shaped_row c _⟩
theorem eqv_nil_iff {K : PySem.W.Frag} {H : Hp} {ys : List V} {ds : List PyData} (h : DpAll K H ys ds) : PyData.eqv (.list ds) (.list []) = decide (ys = []) := by
  cases h with
  | nil => rw [PyData.eqv, PyData.eqvAll]; simp
  | cons a b => rw [eqv_cons_nil]; simp
theorem cut_last {xs : List V} : cutV xs none (some (-1)) = xs.dropLast := by
  unfold cutV
  rw [HT.sIx_none, List.drop_zero, Nat.sub_zero]
  have e : HT.sIx xs.length xs.length (some (-1)) = xs.length - 1 := by
    unfold HT.sIx
    simp
    omega
  rw [e, List.dropLast_eq_take]
end Ord

set_option pp.deepTerms false
set_option pp.maxSteps 1500
namespace Ord
open PySem PySem.Spec PyProof.Rows L2 LamX
section
variable {P : Program} {w : World} {K : PySem.W.Frag} {mg : Str → Option Value} {base : Heap}
/-! ### push -/
def spPush (P : Program) (w : World) (K : PySem.W.Frag) (mg : Str → Option Value) (base : Heap) : Sp := fun vs H Q _ => ∃ (O : Orc P w K mg base) (a : Addr) (xs : List V) (x : V) (l : Lg), vs = [.ref a, x, .ref O.f] ∧
  Row K O.q H a xs ∧ O.Log l H ∧ O.All xs H ∧ O.Dom x H ∧ xs.length ≤ 900 ∧ l.length + xs.length ≤ 80000 ∧
  ∀ H' p zs l', KB O.q H H' → H p = none → H' p = some (.lst zs) → O.Log l' H' → l'.length ≤ l.length + Mir.clog (xs.length + 1) → zs.Perm (xs ++ [x]) → (∀ key, Mir.KeyA O.ans key → Mir.HeapOk key xs → Mir.HeapOk key zs) → Q (.ref p) H'
def N_push : List Str := ["heap", "new", "order", "found", "place", "above"]
theorem sc_push : FnScope ["heap", "new", "order", "found", "place", "above"] ["heap", "new", "order"] (defScope st_push) := ⟨rfl, rfl, rfl, by decide +kernel, rfl, by decide +kernel, by decide +kernel⟩
theorem ok_push (d_push : Df K mg "push" st_push ["heap", "new", "order"]) (mLen : mg "len" = none) (mList : mg "list" = none) : FnOk P w K mg base CX0 4 d_push.f d_push.fd ["heap", "new", "order"] (spPush P w K mg base) := by
  refine d_push.F.ok sc_push (fun vs H Q E h => ?_) (fun cdv A outer s H vs Q E hr h => ?_)
  · obtain ⟨O, a, xs, x, l, rfl, _⟩ := h
    rfl
  · obtain ⟨O, a, xs, e, l, rfl, hR, hL, dx, de, hz, hc, k⟩ := h
    have nd := sc_push.nd
    refine ⟨_, (pss_cons (ps_set (i := 3) nd rfl (Or.inl rfl) (pe_op op_cat (pe_callTy call_list_of (by rfl) mList (by decide +kernel) (pa_cons (pv 0) pa_nil)) (pe_lst (pa_cons (pv 1) pa_nil))))
  (pss_cons (ps_set (i := 4) nd rfl (Or.inl rfl) (pe_len mLen (pv 0)))
  (pss_cons (ps_while PassesOwn.never (PW.pt (pw_and (pt_cmpR op_gt (pv 4) pe_int (nomark _)) (pw_and1 (pt_cmpR op_gt (pe_callV O.run (hr.mono (by decide)) (pa_cons (pe_ix ix_list (pv 3) (pe_op op_fdivE (pe_op op_subE (pv 4) pe_int) pe_int) (fun _ _ => rfl)) (pa_cons (pe_ix ix_list (pv 3) (pv 4) (fun _ _ => rfl)) pa_nil)) (i := 2)) pe_int (nomark _)))))
    (pss_cons (ps_set (i := 5) nd rfl (Or.inl rfl) (pe_op op_fdivE (pe_op op_subE (pv 4) pe_int) pe_int))
  (pss_cons (ps_asg (pe_tup (pa_cons (pe_ix ix_list (pv 3) (pv 4) (fun _ _ => rfl)) (pa_cons (pe_ix ix_list (pv 3) (pv 5) (fun _ _ => rfl)) pa_nil))) (pg_tup (by rfl) (pgs_cons (pg_sub (pv 3) (pv 5) set_list) (pgs_cons (pg_sub (pv 3) (pv 4) set_list) pgs_nil))))
  (pss_one (ps_set (i := 4) nd rfl (Or.inl rfl) (pv 5))))))
  (pss_one (ps_ret (pv 3)))))), ?_⟩
    refine ⟨_, rfl, a, xs, rfl, .inl hR.1, fun p1 n1 => ?_⟩
    refine ⟨_, rfl, by show 1 ≤ sizeLine; decide, fun p2 n2 => ?_⟩
    refine ⟨p1, p2, xs, [e], rfl, rfl, kn n2 upd_same, upd_same, z1000 (by show xs.length + 1 ≤ 1000; omega), fun p np3 => ?_⟩
    have kb0 : KB O.q H (upd (upd (upd H p1 (.lst xs)) p2 (.lst [e])) p (.lst (xs ++ [e]))) := ((KB.new n1).trans (KB.new n2)).trans (KB.new np3)
    have hL0 := Orc.new (o := .lst (xs ++ [e])) (Orc.new (o := .lst [e]) (Orc.new (o := .lst xs) hL n1) n2) np3
    have np : H p = none := upd_none (upd_none np3)
    have hp0 : upd (upd (upd H p1 (.lst xs)) p2 (.lst [e])) p (.lst (xs ++ [e])) p = some (.lst (xs ++ [e])) := upd_same
    obtain ⟨H0, e0⟩ : ∃ H0, H0 = upd (upd (upd H p1 (.lst xs)) p2 (.lst [e])) p (.lst (xs ++ [e])) := ⟨_, rfl⟩
    rw [← e0] at kb0 hL0 hp0 ⊢
    clear e0 np3 n2 n1
    have pq : p ≠ O.q := Orc.nq hL np
    refine ⟨_, rfl, a, xs, rfl, .inl (hR.kb kb0).1, ?_⟩
    refine ⟨fun mu σ H' => ∃ (pl : Nat) (v5 : Option V) (ys : List V) (l' : Lg), σ = [some (.ref a), some e, some (.ref O.f), some (.ref p), some (.int (pl : Nat)), v5] ∧ mu = pl ∧ KB O.q H H' ∧ H' p = some (.lst ys) ∧ O.Log l' H' ∧ ys.Perm (xs ++ [e]) ∧ pl ≤ xs.length ∧ l'.length + Mir.clog (pl + 1) ≤ l.length + Mir.clog (xs.length + 1) ∧ ∀ key, Mir.KeyA O.ans key → Mir.HeapOk key xs → Mir.Up key ys pl,
      ⟨_, xs.length, none, xs ++ [e], l, rfl, rfl, kb0, hp0, hL0, List.Perm.refl _, Nat.le_refl _, Nat.le_refl _, fun key A h => Mir.Up.start h⟩, ?_⟩
    rintro mu σ H1 ⟨pl, v5, ys, l', rfl, rfl, kb, hp, hL', hpm, hle, hl, hk⟩
    have ly := hpm.length_eq
    rw [List.length_append, List.length_singleton] at ly
    have ccl : Mir.clog (xs.length + 1) ≤ xs.length + 1 := Mir.clog_le_self _
    have dy : O.All ys H1 := fun z hz' => by
      rcases List.mem_append.mp (hpm.subset hz') with q | q
      · exact (dx.tk kb.tk) z q
      · rw [List.mem_singleton.mp q]
        exact O.dom kb.tk de
    refine ⟨_, rfl, _, _, rfl, rfl, _, rfl, ?_⟩
    refine iteD (fun h => ?go) (fun h => ?stop)
    case stop =>
      have h0 : mu = 0 := by have : ¬ (0 : Int) < (mu : Int) := h; omega
      refine iteF ⟨_, rfl, ?_⟩
      exact k H1 p ys l' kb np hp hL' (by omega) hpm fun key A hf => by
        have h := hk key A hf
        rw [h0] at h
        exact h.zero
    have h0 : 0 < mu := by have : (0 : Int) < (mu : Int) := h; omega
    obtain ⟨x, ex⟩ : ∃ x, ys[(mu - 1) / 2]? = some x := ⟨_, List.getElem?_eq_getElem (by omega)⟩
    obtain ⟨y, ey⟩ : ∃ y, ys[mu]? = some y := ⟨_, List.getElem?_eq_getElem (by omega)⟩
    have hlog : Mir.clog ((mu - 1) / 2 + 1) + 1 ≤ Mir.clog (mu + 1) := by
      rw [Mir.clog_half (n := mu + 1) (by omega)]
      exact Nat.succ_le_succ (Mir.clog_mono (by omega))
    refine ⟨rfl, O.isf hL', _, rfl, _, rfl, _, _, (mu : Int) - 1, rfl, rfl, rfl, _, _, (((mu - 1) / 2 : Nat) : Int), rfl, rfl, ⟨by decide, by decide⟩, (by show (((mu - 1) / 2 : Nat) : Int) = ((mu : Int) - 1) / 2; omega), p, ys, _, x, rfl, rfl, SqL.of hp, atI_nat ex, _, rfl, _, rfl, p, ys, _, y, rfl, rfl, SqL.of hp, atI_nat ey, O.isf hL', x, y, l', rfl, hL', by omega, dy.get ex, dy.get ey, fun H2 kb2 hL2 => ?_⟩
    have kb3 := kb.trans kb2
    have hp2 := kb2.keep _ _ pq hp
    refine ⟨_, _, rfl, rfl, _, rfl, ?_⟩
    refine iteD (fun h3 => ?go2) (fun h3 => ?stop2)
    case stop2 =>
      refine ⟨_, rfl, ?_⟩
      have h3' : ¬ 0 < O.ans l' x y := h3
      exact k H2 p ys _ kb3 np hp2 hL2 (by rw [List.length_append, List.length_singleton]; omega) hpm fun key A hf => (hk key A hf).stop ex ey ((A.le l' x y).mp (by omega))
    have n : (mu - 1) / 2 ≠ mu := by omega
    refine ⟨_, fun _ _ h => h, ?_⟩
    refine ⟨_, rfl, _, _, (mu : Int) - 1, rfl, rfl, rfl, _, _, (((mu - 1) / 2 : Nat) : Int), rfl, rfl, ⟨by decide, by decide⟩, (by show (((mu - 1) / 2 : Nat) : Int) = ((mu : Int) - 1) / 2; omega), ?_⟩
    refine ⟨_, rfl, _, rfl, p, ys, _, y, rfl, rfl, SqL.of hp2, atI_nat ey, _, rfl, _, rfl, p, ys, _, x, rfl, rfl, SqL.of hp2, atI_nat ex, by show 2 ≤ sizeLine; decide, fun t nt => ?_⟩
    have hp4 := kn (o := .tup [y, x]) nt hp2
    have kb5 := kb3.trans (KB.new (o := .tup [y, x]) nt)
    have hL4 := Orc.new (o := .tup [y, x]) hL2 nt
    refine ⟨t, _, rfl, SqT.of upd_same, rfl, ?_⟩
    refine ⟨_, _, rfl, _, rfl, _, rfl, p, ys, _, (mu - 1) / 2, rfl, rfl, hp4, ixN_nat (by omega), ?_⟩
    have hL5 := Orc.wr (o := .lst (ys.set ((mu - 1) / 2) y)) hL4 hp4 nf_lst pq
    have kb6 := KB.wr (o := .lst (ys.set ((mu - 1) / 2) y)) kb5 np
    refine ⟨_, _, rfl, _, rfl, _, rfl, p, ys.set ((mu - 1) / 2) y, _, mu, rfl, rfl, upd_same, ixN_nat (by rw [List.length_set]; omega), ?_⟩
    have hL6 := Orc.wr (o := .lst ((ys.set ((mu - 1) / 2) y).set mu x)) hL5 upd_same nf_lst pq
    have kb7 := KB.wr (o := .lst ((ys.set ((mu - 1) / 2) y).set mu x)) kb6 np
    refine ⟨rfl, _, rfl, _, by omega, (mu - 1) / 2, _, _, _, rfl, rfl, kb7, upd_same, hL6, (Mir.swap_perm ex ey n).trans hpm, by omega, by rw [List.length_append, List.length_singleton]; omega, fun key A hf => ?_⟩
    have h4 := (A.pos l' x y).mp h3
    exact (hk key A hf).step (by omega) ex ey (by omega)
/-! ### pop -/
def spPop (P : Program) (w : World) (K : PySem.W.Frag) (mg : Str → Option Value) (base : Heap) : Sp := fun vs H Q _ => ∃ (O : Orc P w K mg base) (a : Addr) (h0 : V) (t : List V) (l : Lg), vs = [.ref a, .ref O.f] ∧
  Row K O.q H a (h0 :: t) ∧ O.Log l H ∧ O.All (h0 :: t) H ∧ DatS K (h0 :: t) H ∧ t.length ≤ 900 ∧ l.length + t.length ≤ 80000 ∧
  ∀ H' tu p zs l', KB O.q H H' → H tu = none → H' tu = some (.tup [h0, .ref p]) → H p = none → H' p = some (.lst zs) → O.Log l' H' → l'.length ≤ l.length + 2 * Mir.clog (t.length + 1) → zs.Perm t → (∀ key, Mir.KeyA O.ans key → Mir.HeapOk key (h0 :: t) → Mir.HeapOk key zs) → Q (.ref tu) H'
def N_pop : List Str := ["heap", "order", "rest"]
theorem sc_pop : FnScope ["heap", "order", "rest"] ["heap", "order"] (defScope st_pop) := ⟨rfl, rfl, rfl, by decide +kernel, rfl, by decide +kernel, by decide +kernel⟩
theorem ok_pop (d_pop : Df K mg "pop" st_pop ["heap", "order"]) (d_sunk : Df K mg "sunk" st_sunk ["row", "place", "order"]) (mLen : mg "len" = none) (mList : mg "list" = none) : FnOk P w K mg base CX0 5 d_pop.f d_pop.fd ["heap", "order"] (spPop P w K mg base) := by
  have G_sunk : FnOk P w K mg base CX0 4 d_sunk.f d_sunk.fd ["row", "place", "order"] (spSunk P w K mg base) := ok_sunk d_sunk mLen mList
  refine d_pop.F.ok sc_pop (fun vs H Q E h => ?_) (fun cdv A outer s H vs Q E hr h => ?_)
  · obtain ⟨O, a, h0, t, l, rfl, _⟩ := h
    rfl
  · obtain ⟨O, a, h0, t, l, rfl, hR, hL, dx, hD, hz, hc, k⟩ := h
    have nd := sc_pop.nd
    refine ⟨_, (pss_cons (ps_if (pt_cmpR (op_eqD hr.units) (pv 0) (pe_lst pa_nil) (nomark _))
    (pss_one ps_dead)
    pss_nil)
  (pss_cons (ps_set (i := 2) nd rfl (Or.inl rfl) (pe_callTy call_list_of (by rfl) mList (by decide +kernel) (pa_cons (pe_slice sl_list (pv 0) po_none (po_some (pe_un un_neg pe_int))) pa_nil)))
  (C8.pss_cut (ps_if (pt_cmpR (op_neD hr.units) (pv 2) (pe_lst pa_nil) (nomark _))
    (pss_one (ps_asg (pe_ix ix_list (pv 0) (pe_un un_neg pe_int) (fun _ _ => rfl)) (pg_sub (pv 2) pe_int set_list)))
    pss_nil)
  (pss_one (ps_ret (pe_tup (pa_cons (pe_ix ix_list (pv 0) pe_int (fun _ _ => rfl)) (pa_cons (pe_cd (d := d_sunk) G_sunk (hr.mono (by decide)) (pa_cons (pv 2) (pa_cons pe_int (pa_cons (pv 1) pa_nil)))) pa_nil)))))))), ?_⟩
    obtain ⟨xs, exs⟩ : ∃ xs, xs = h0 :: t := ⟨_, rfl⟩
    rw [← exs] at hR dx hD k
    have lxs : xs.length = t.length + 1 := by rw [exs]; rfl
    have e0 : xs[0]? = some h0 := by rw [exs]; rfl
    refine ⟨_, rfl, Nat.zero_le _, fun p0 n0 => ?_⟩
    have kb0 : KB O.q H (upd H p0 (.lst [])) := KB.new n0
    have hL0 := Orc.new (o := .lst []) hL n0
    obtain ⟨ds, hds, hsh⟩ := hD xs (fun _ h => h) _ kb0.tk
    refine ⟨_, _, .lst (hR.kb kb0).1 hds, .lst (SqL.of upd_same) .nil, hsh, shaped_nil, _, rfl, ?_⟩
    rw [eqv_nil_iff hds, decide_eq_false (by rw [exs]; simp)]
    refine iteF ?_
    -- the rest
    refine ⟨_, rfl, _, rfl, _, rfl, a, xs, rfl, (hR.kb kb0).1, fun p1 n1 => ?_⟩
    rw [show cutV xs none (some (-1)) = xs.dropLast from cut_last]
    have hL1 := Orc.new (o := .lst xs.dropLast) hL0 n1
    refine ⟨p1, xs.dropLast, rfl, .inl (SqL.of upd_same), fun rp nrp => ?_⟩
    have kb1 := (kb0.trans (KB.new (o := .lst xs.dropLast) n1)).trans (KB.new (o := .lst xs.dropLast) nrp)
    have hL2 := Orc.new (o := .lst xs.dropLast) hL1 nrp
    have nr : H rp = none := upd_none (upd_none nrp)
    obtain ⟨H1, e1⟩ : ∃ H1, H1 = upd (upd (upd H p0 (.lst [])) p1 (.lst xs.dropLast)) rp (.lst xs.dropLast) := ⟨_, rfl⟩
    have hrp : H1 rp = some (.lst xs.dropLast) := by rw [e1]; exact upd_same
    rw [← e1] at kb1 hL2 ⊢
    clear e1 nrp hL1 n1 hds hL0 kb0 n0
    have rq : rp ≠ O.q := Orc.nq hL nr
    refine ⟨fun σ H2 => ∃ ys : List V, σ = [some (.ref a), some (.ref O.f), some (.ref rp)] ∧ KB O.q H H2 ∧ O.Log l H2 ∧ H2 rp = some (.lst ys) ∧ ys.Perm t ∧ ∀ key, Mir.HeapOk key xs → Mir.HeapFrom key ys 1, ?_, ?_⟩
    · refine ⟨_, rfl, Nat.zero_le _, fun p2 n2 => ?_⟩
      have kb2 := kb1.trans (KB.new (o := .lst []) n2)
      have hL3 := Orc.new (o := .lst []) hL2 n2
      have hrp2 := kn (o := .lst []) n2 hrp
      obtain ⟨ds, hds, hsh⟩ := hD xs.dropLast (fun y hy => List.dropLast_subset _ hy) _ kb2.tk
      refine ⟨_, _, .lst (SqL.of hrp2) hds, .lst (SqL.of upd_same) .nil, hsh, shaped_nil, _, rfl, ?_⟩
      rw [eqv_nil_iff hds]
      by_cases ht : t = []
      · rw [show decide (xs.dropLast = []) = true from by rw [exs, ht]; rfl]
        refine iteF ⟨xs.dropLast, rfl, kb2, hL3, hrp2, ?_, fun key hk => ?_⟩
        · rw [exs, ht]
          exact List.Perm.refl _
        · refine Mir.heap_nil _ ?_
          rw [exs, ht]
          simp
      · have hdl : xs.dropLast ≠ [] := fun z => by
          have h := congrArg List.length z
          rw [List.length_dropLast, lxs] at h
          exact ht (List.length_eq_zero_iff.mp (by simpa using h))
        rw [decide_eq_false hdl]
        refine iteT ?_
        obtain ⟨z, ez⟩ : ∃ z, xs.getLast? = some z := ⟨_, List.getLast?_eq_some_getLast (by rw [exs]; simp)⟩
        have az : atI xs (-1) = some z := by
          obtain ⟨r, er⟩ := List.getLast?_eq_some_iff.mp ez
          rw [er]
          exact atI_last r z
        refine ⟨_, rfl, _, rfl, a, xs, _, z, rfl, rfl, (hR.kb kb2).1, az, ?_⟩
        refine ⟨_, rfl, rp, xs.dropLast, 0, 0, rfl, rfl, hrp2, ixN_nat (j := 0) (List.length_pos_iff.mpr hdl), ?_⟩
        refine ⟨xs.dropLast.set 0 z, rfl, KB.wr kb2 nr, Orc.wr hL3 hrp2 nf_lst rq, upd_same, ?_, fun key hk => Mir.pop_heap hk⟩
        rw [exs]
        exact Mir.pop_perm (by rw [← exs]; exact ez) ht
    rintro σ H2 ⟨ys, rfl, kb2, hL3, hrp2, hpm, hk⟩
    have ly := hpm.length_eq
    have dt : O.All ys H2 := fun z hz' => (dx.tk kb2.tk) z (by rw [exs]; exact List.mem_cons_of_mem _ (hpm.subset hz'))
    have lg : Nat.log2 (ys.length / (0 + 1)) ≤ Mir.clog (t.length + 1) := by
      rw [Nat.zero_add, Nat.div_one, ly]
      exact Mir.log2_clog _
    have lg2 : Mir.clog (t.length + 1) ≤ t.length + 1 := Mir.clog_le_self _
    refine ⟨_, rfl, a, xs, 0, h0, rfl, rfl, (hR.kb kb2).1, atI_nat (j := 0) e0, _, rfl, _, rfl, O, rp, ys, 0, l, rfl, Row.of hrp2 rq, hL3, dt, by omega, by omega, fun H3 p zs l' kb3 np hp hL4 hc4 hpm4 hk4 => ?_⟩
    have np2 : H p = none := kb2.free (Orc.nq hL3 np) np
    refine ⟨by show 2 ≤ sizeLine; decide, fun tu ntu => ?_⟩
    have kb4 := kb2.trans kb3
    refine k _ tu p zs l' (kb4.trans (KB.new ntu)) (kb4.free (Orc.nq hL4 ntu) ntu) upd_same np2 (kn ntu hp) (Orc.new hL4 ntu) (by omega) (hpm4.trans hpm) fun key A hx => hk4 key A (hk key hx)
/-! ### heaped -/
def spHeaped (P : Program) (w : World) (K : PySem.W.Frag) (mg : Str → Option Value) (base : Heap) : Sp := fun vs H Q _ => ∃ (O : Orc P w K mg base) (a : Addr) (xs : List V) (l : Lg), vs = [.ref a, .ref O.f] ∧
  Row K O.q H a xs ∧ O.Log l H ∧ O.All xs H ∧ xs.length ≤ 900 ∧ l.length + 2 * xs.length ≤ 80000 ∧
  ∀ H' p zs l', KB O.q H H' → H p = none → H' p = some (.lst zs) → O.Log l' H' → l'.length ≤ l.length + 2 * xs.length → zs.Perm xs → (∀ key, Mir.KeyA O.ans key → Mir.HeapOk key zs) → Q (.ref p) H'
def N_heaped : List Str := ["row", "order", "found", "place"]
theorem sc_heaped : FnScope ["row", "order", "found", "place"] ["row", "order"] (defScope st_heaped) := ⟨rfl, rfl, rfl, by decide +kernel, rfl, by decide +kernel, by decide +kernel⟩
theorem ok_heaped (d_heaped : Df K mg "heaped" st_heaped ["row", "order"]) (d_sunk : Df K mg "sunk" st_sunk ["row", "place", "order"]) (mLen : mg "len" = none) (mList : mg "list" = none) (mRange : mg "range" = none) : FnOk P w K mg base CX0 5 d_heaped.f d_heaped.fd ["row", "order"] (spHeaped P w K mg base) := by
  have G_sunk : FnOk P w K mg base CX0 4 d_sunk.f d_sunk.fd ["row", "place", "order"] (spSunk P w K mg base) := ok_sunk d_sunk mLen mList
  refine d_heaped.F.ok sc_heaped (fun vs H Q E h => ?_) (fun cdv A outer s H vs Q E hr h => ?_)
  · obtain ⟨O, a, xs, l, rfl, _⟩ := h
    rfl
  · obtain ⟨O, a, xs, l, rfl, hR, hL, dx, hz, hc, k⟩ := h
    have nd := sc_heaped.nd
    refine ⟨_, (pss_cons (ps_set (i := 2) nd rfl (Or.inl rfl) (pe_callTy call_list_of (by rfl) mList (by decide +kernel) (pa_cons (pv 0) pa_nil)))
  (pss_cons (ps_for PassesOwn.never rfl (pi_range3 rfl mRange (pa_cons (pe_op op_subE (pe_op op_fdivE (pe_len mLen (pv 0)) pe_int) pe_int) (pa_cons (pe_un un_neg pe_int) (pa_cons (pe_un un_neg pe_int) pa_nil)))) (pg_name (i := 3) nd rfl (Or.inl rfl))
    (pss_one (ps_set (i := 2) nd rfl (Or.inl rfl) (pe_cd (d := d_sunk) G_sunk (hr.mono (by decide)) (pa_cons (pv 2) (pa_cons (pv 3) (pa_cons (pv 1) pa_nil)))))))
  (pss_one (ps_ret (pv 2))))), ?_⟩
    refine ⟨_, rfl, a, xs, rfl, .inl hR.1, fun p0 n0 => ?_⟩
    have kb0 : KB O.q H (upd H p0 (.lst xs)) := KB.new n0
    have hL0 := Orc.new (o := .lst xs) hL n0
    have lv := Mir.lvs_le xs.length (xs.length / 2)
    refine ⟨_, rfl, a, xs, rfl, .inl (hR.kb kb0).1, _, _, ((xs.length / 2 : Nat) : Int), rfl, rfl, ⟨by decide, by decide⟩, (by show ((xs.length / 2 : Nat) : Int) = (xs.length : Int) / 2; omega), _, _, (((xs.length / 2 : Nat) : Int) - 1), rfl, rfl, rfl, _, rfl, _, rfl, (((xs.length / 2 : Nat) : Int) - 1), -1, -1, _, rfl, RgC.neg (by omega) (by omega) (by omega) (by omega), ?_⟩
    refine for_rangeC (lo := ((xs.length / 2 : Nat) : Int) - 1) (c := -1) (n := (((xs.length / 2 : Nat) : Int) - 1 - -1).toNat) (fun i σ H' => ∃ (fp : Addr) (v3 : Option V) (ys : List V) (l' : Lg), σ = [some (.ref a), some (.ref O.f), some (.ref fp), v3] ∧ KB O.q H H' ∧ H fp = none ∧ H' fp = some (.lst ys) ∧ O.Log l' H' ∧ ys.Perm xs ∧ l'.length + 2 * Mir.lvs xs.length (xs.length / 2 - i) ≤ l.length + 2 * Mir.lvs xs.length (xs.length / 2) ∧ ∀ key, Mir.KeyA O.ans key → Mir.HeapFrom key ys (xs.length / 2 - i))
      ⟨p0, none, xs, l, rfl, kb0, n0, upd_same, hL0, List.Perm.refl _, by rw [Nat.sub_zero]; exact Nat.le_refl _, fun key A => Mir.heap_nil _ (by omega)⟩ ?_ ?_
    · rintro i σ H1 hi ⟨fp, v3, ys, l', rfl, kb, nfp, hfp, hL', hpm, hl, hk⟩
      have hi' : i < xs.length / 2 := by omega
      obtain ⟨pl, epl⟩ : ∃ pl, pl = xs.length / 2 - 1 - i := ⟨_, rfl⟩
      rw [show (((xs.length / 2 : Nat) : Int) - 1 + (i : Nat) * -1) = ((pl : Nat) : Int) by omega]
      have ly := hpm.length_eq
      have e1 : xs.length / 2 - i = pl + 1 := by omega
      have e2 : xs.length / 2 - (i + 1) = pl := by omega
      rw [e1] at hl hk
      have e3 : Mir.lvs xs.length (pl + 1) = Mir.lvs xs.length pl + Nat.log2 (xs.length / (pl + 1)) := rfl
      have lv2 := Mir.lvs_le xs.length (pl + 1)
      have dy : O.All ys H1 := fun z hz' => (dx.tk kb.tk) z (hpm.subset hz')
      refine ⟨_, rfl, _, rfl, _, rfl, O, fp, ys, pl, l', rfl, Row.of hfp (Orc.nq hL nfp), hL', dy, by omega, by rw [ly]; omega, fun H3 p zs l2 kb3 np hp hL4 hc4 hpm4 hk4 => ?_⟩
      rw [ly] at hc4
      refine ⟨p, _, zs, l2, rfl, kb.trans kb3, kb.free (Orc.nq hL' np) np, hp, hL4, hpm4.trans hpm, by rw [e2]; omega, fun key A => ?_⟩
      rw [e2]
      exact hk4 key A (hk key A)
    · rintro σ H1 ⟨fp, v3, ys, l', rfl, kb, nfp, hfp, hL', hpm, hl, hk⟩
      refine ⟨_, rfl, ?_⟩
      have e1 : xs.length / 2 - (((xs.length / 2 : Nat) : Int) - 1 - -1).toNat = 0 := by omega
      rw [e1] at hl hk
      exact k H1 fp ys l' kb nfp hfp hL' (by omega) hpm hk
end
end Ord

namespace Ord
open PySem PySem.Spec PyProof.Rows L2 LamX
section
variable {P : Program} {w : World} {K : PySem.W.Frag} {mg : Str → Option Value} {base : Heap}
theorem el_tup {H : Hp} {t : Addr} {a b : Int} (e : H t = some (.tup [.int a, .int b])) (ha : Sn a) (hb : Sn b) : El (cnt H) (.ref t) H ∧ cnt H (.ref t) = (a, b) := by
  have h : Pr H (.ref t) (a, b) := ⟨t, rfl, e⟩
  have e2 := h.cnt
  exact ⟨⟨by rw [e2]; exact h, by rw [e2]; exact ha, by rw [e2]; exact hb⟩, e2⟩
def N__law_heaps_right : List Str := ["_law_row_here", "_law_order", "_law_asked", "_law_many", "_law_told", "_law_more", "_law_first", "_law_rest"]
theorem sc__law_heaps_right : FnScope ["_law_row_here", "_law_order", "_law_asked", "_law_many", "_law_told", "_law_more", "_law_first", "_law_rest"] ["_law_row_here", "_law_order", "_law_asked"] (defScope st__law_heaps_right) := ⟨rfl, rfl, rfl, by decide +kernel, rfl, by decide +kernel, by decide +kernel⟩
def spHeapsR (P : Program) (w : World) (K : PySem.W.Frag) (mg : Str → Option Value) (base : Heap) : Sp := fun vs H Q _ => ∃ (O : Orc P w K mg base) (a : Addr) (xs : List V) (c : V → Int × Int), vs = [.ref a, .ref O.f, .ref O.q] ∧
  H a = some (.lst xs) ∧ a ≠ O.q ∧ O.Log [] H ∧ O.Clr ∧ O.DomE ∧ Els c xs H ∧ xs.length ≤ 100 ∧
  ∀ H' l', KB O.q H H' → O.Log l' H' → Q (.bl true) H'
theorem ok_heapsR (d__law_heaps_right : Df K mg "_law_heaps_right" st__law_heaps_right ["_law_row_here", "_law_order", "_law_asked"]) (d_is_heap : Df K mg "is_heap" st_is_heap ["row", "order"]) (d_push : Df K mg "push" st_push ["heap", "new", "order"]) (d_sunk : Df K mg "sunk" st_sunk ["row", "place", "order"]) (d_pop : Df K mg "pop" st_pop ["heap", "order"]) (d_heaped : Df K mg "heaped" st_heaped ["row", "order"]) (d__law_alike : Df K mg "_law_alike" st__law_alike ["_law_one", "_law_other"]) (d__law_log : Df K mg "_law_log" st__law_log ["_law_many"]) (mLen : mg "len" = none) (mList : mg "list" = none) (mMax : mg "max" = none) (mRange : mg "range" = none) (mIsi : mg "isinstance" = none) (mBool : mg "bool" = none) : FnOk P w K mg base CX0 6 d__law_heaps_right.f d__law_heaps_right.fd ["_law_row_here", "_law_order", "_law_asked"] (spHeapsR P w K mg base) := by
  have G_heaped : FnOk P w K mg base CX0 5 d_heaped.f d_heaped.fd ["row", "order"] (spHeaped P w K mg base) := ok_heaped d_heaped d_sunk mLen mList mRange
  have G_push : FnOk P w K mg base CX0 4 d_push.f d_push.fd ["heap", "new", "order"] (spPush P w K mg base) := ok_push d_push mLen mList
  have G_pop : FnOk P w K mg base CX0 5 d_pop.f d_pop.fd ["heap", "order"] (spPop P w K mg base) := ok_pop d_pop d_sunk mLen mList
  have G_is_heap : FnOk P w K mg base CX0 4 d_is_heap.f d_is_heap.fd ["row", "order"] (spIsHeap P w K mg base) := ok_is_heap d_is_heap mLen mRange
  have G__law_alike : FnOk P w K mg base CX0 1 d__law_alike.f d__law_alike.fd ["_law_one", "_law_other"] (spAlike K) := ok_alike d__law_alike mList
  have G__law_log : FnOk P w K mg base CX0 1 d__law_log.f d__law_log.fd ["_law_many"] spLog := ok_log d__law_log
  refine d__law_heaps_right.F.ok sc__law_heaps_right (fun vs H Q E h => ?_) (fun cdv A outer s H vs Q E hr h => ?_)
  · obtain ⟨O, a, xs, c, rfl, _⟩ := h
    rfl
  · obtain ⟨O, a, xs, c, rfl, ha, aq, hL, hC, hD, eX, hz, hQ⟩ := h
    have nd := sc__law_heaps_right.nd
    refine ⟨_, (pss_cons (ps_set (i := 3) nd rfl (Or.inl rfl) (pe_len mLen (pv 0)))
  (pss_cons (ps_set (i := 4) nd rfl (Or.inl rfl) (pe_cd (d := d_heaped) G_heaped (hr.mono (by decide)) (pa_cons (pv 0) (pa_cons (pv 1) pa_nil))))
  (pss_cons (ps_if (PW.pt (pw_or (pt_not (pt_val (pe_cd (d := d__law_alike) G__law_alike (hr.mono (by decide)) (pa_cons (pv 4) (pa_cons (pv 0) pa_nil))))) (pw_or1 (pt_cmpR op_gt (pe_len mLen (pv 2)) (pe_op op_mulE pe_int (pv 3)) (nomark _)))))
    (pss_one (ps_ret pe_bl))
    pss_nil)
  (pss_cons (ps_expr (pe_bm0 PySem.F.plainAttrs_list PySem.F.slot_list_clear PySem.F.type_list_clear mt_clear (pv 2)))
  (pss_cons (ps_set (i := 5) nd rfl (Or.inl rfl) (pe_cd (d := d_push) G_push (hr.mono (by decide)) (pa_cons (pv 4) (pa_cons (pe_tup (pa_cons pe_int (pa_cons pe_int pa_nil))) (pa_cons (pv 1) pa_nil)))))
  (pss_cons (ps_if (PW.pt (pw_or (pt_not (pt_val (pe_cd (d := d__law_alike) G__law_alike (hr.mono (by decide)) (pa_cons (pv 5) (pa_cons (pe_op op_cat (pv 4) (pe_lst (pa_cons (pe_tup (pa_cons pe_int (pa_cons pe_int pa_nil))) pa_nil))) pa_nil))))) (pw_or1 (pt_cmpR op_gt (pe_len mLen (pv 2)) (pe_cd (d := d__law_log) G__law_log (hr.mono (by decide)) (pa_cons (pe_op op_addE (pv 3) pe_int) pa_nil)) (nomark _)))))
    (pss_one (ps_ret pe_bl))
    pss_nil)
  (pss_cons (ps_expr (pe_bm0 PySem.F.plainAttrs_list PySem.F.slot_list_clear PySem.F.type_list_clear mt_clear (pv 2)))
  (pss_cons (ps_asg (pe_cd (d := d_pop) G_pop (hr.mono (by decide)) (pa_cons (pv 5) (pa_cons (pv 1) pa_nil))) (pg_tup (by rfl) (pgs_cons (pg_name (i := 6) nd rfl (Or.inl rfl)) (pgs_cons (pg_name (i := 7) nd rfl (Or.inl rfl)) pgs_nil))))
  (pss_cons (ps_if (PW.pt (pw_or (pt_cmpR (op_neD hr.units) (pv 6) (pe_ix ix_list (pv 5) pe_int (fun _ _ => rfl)) (nomark _)) (pw_or (pt_not (pt_val (pe_cd (d := d__law_alike) G__law_alike (hr.mono (by decide)) (pa_cons (pe_op op_cat (pe_lst (pa_cons (pv 6) pa_nil)) (pv 7)) (pa_cons (pv 5) pa_nil))))) (pw_or1 (pt_cmpR op_gt (pe_len mLen (pv 2)) (pe_op op_mulE pe_int (pe_cd (d := d__law_log) G__law_log (hr.mono (by decide)) (pa_cons (pe_op op_addE (pv 3) pe_int) pa_nil))) (nomark _))))))
    (pss_one (ps_ret pe_bl))
    pss_nil)
  (pss_cons (ps_expr (pe_bm0 PySem.F.plainAttrs_list PySem.F.slot_list_clear PySem.F.type_list_clear mt_clear (pv 2)))
  (pss_one (ps_ret (pe_and (pe_callB call_isi (by rfl) mIsi (by decide +kernel) (pa_cons (pe_cd (d := d_is_heap) G_is_heap (hr.mono (by decide)) (pa_cons (pv 0) (pa_cons (pv 1) pa_nil))) (pa_cons (pe_bltn (v := .ty "bool") (by rfl) mBool (by decide +kernel) rfl) pa_nil))) (pe_one (pe_cmpR op_le (pe_len mLen (pv 2)) (pe_callB (call_max2 rfl) (by rfl) mMax (by decide +kernel) (pa_cons pe_int (pa_cons (pe_op op_subE (pv 3) pe_int) pa_nil))) (nomark _)))))))))))))))), ?_⟩
    refine ⟨_, rfl, a, xs, rfl, .inl (SqL.of ha), ?_⟩
    have all : ∀ {H1 : Hp}, TK H H1 → O.All xs H1 := fun k x hx => hD x _ ((eX.tk k).now x hx)
    -- heaped
    refine ⟨_, rfl, _, rfl, O, a, xs, [], rfl, Row.of ha aq, hL, all (TK.refl _), by omega, by simp only [List.length_nil]; omega, fun H1 p1 zs l1 kb1 np1 hp1 hL1 hc1 hpm1 _ => ?_⟩
    have pq1 : p1 ≠ O.q := Orc.nq hL np1
    have ha1 := kb1.keep _ _ aq ha
    have eX1 := (eX.tk kb1.tk).now
    have lz := hpm1.length_eq
    have eZ1 : Els (cnt H1) zs H1 := fun x hx => eX1 x (hpm1.subset hx)
    refine ⟨_, rfl, _, rfl, p1, a, zs, xs, cnt H1, rfl, SqL.of hp1, SqL.of ha1, eZ1, eX1, by omega, hpm1.map _, fun H2 s2 => ?_⟩
    refine ⟨_, rfl, iteF ?_⟩
    have kb2 := kb1.trans (KB.of_same s2)
    have hL2 : O.Log l1 H2 := O.stay (Stay.of_same s2) hL1
    have hp2 := s2 _ _ hp1
    obtain ⟨qs, hq, lg, hC2⟩ := hC l1 H2 hL2
    have ll := lg.length
    refine ⟨_, rfl, O.q, qs, rfl, .inl (SqL.of hq), _, rfl, _, _, ((2 * xs.length : Nat) : Int), rfl, rfl, .inl ⟨by omega, by omega⟩, (by show ((2 * xs.length : Nat) : Int) = 2 * (xs.length : Int); omega), _, _, rfl, rfl, _, rfl, ?_⟩
    refine iteD (fun h => ?_) (fun _ => ?_)
    · have h' : ((2 * xs.length : Nat) : Int) < (qs.length : Int) := h
      simp only [List.length_nil] at hc1
      omega
    -- clear
    refine ⟨_, rfl, .inl ⟨rfl, _, SqL.of hq⟩, _, qs, rfl, rfl, hq, ?_⟩
    have kb3 := kb2.trans (KB.wrq (zs := []) hq)
    have hp3 : upd H2 O.q (.lst []) p1 = some (.lst zs) := (upd_ne pq1).trans hp2
    obtain ⟨H3, e3⟩ : ∃ H3, H3 = upd H2 O.q (.lst []) := ⟨_, rfl⟩
    rw [← e3] at hC2 kb3 hp3 ⊢
    clear e3 hq lg ll hL2 kb2 hp2 s2 hL1 eZ1 eX1 ha1 hp1 kb1 hc1
    -- push
    have allz : ∀ {H1 : Hp}, TK H H1 → O.All zs H1 := fun k x hx => all k x (hpm1.subset hx)
    refine ⟨_, rfl, by show 2 ≤ sizeLine; decide, fun t1 nt1 => ?_⟩
    have ht1 : upd H3 t1 (.tup [.int 99, .int 99]) t1 = some (.tup [.int 99, .int 99]) := upd_same
    have kb4 := kb3.trans (KB.new (o := .tup [.int 99, .int 99]) nt1)
    have hL4 := Orc.new (o := .tup [.int 99, .int 99]) hC2 nt1
    have hp4 := kn (o := .tup [.int 99, .int 99]) nt1 hp3
    have s99 : Sn 99 := Sn.of (by decide) (by decide)
    refine ⟨_, rfl, O, p1, zs, .ref t1, [], rfl, Row.of hp4 pq1, hL4, allz kb4.tk, hD _ _ (el_tup ht1 s99 s99).1, by omega, by simp only [List.length_nil]; omega, fun H5 p5 ms l5 kb5 np5 hp5 hL5 hc5 hpm5 _ => ?_⟩
    have pq5 : p5 ≠ O.q := Orc.nq hL4 np5
    have kb6 := kb4.trans kb5
    have ht5 := kb5.tk _ _ ht1
    have hp15 := kb5.keep _ _ pq1 hp4
    have lm := hpm5.length_eq
    rw [List.length_append, List.length_singleton] at lm
    -- alike
    refine ⟨_, rfl, _, rfl, by show 2 ≤ sizeLine; decide, fun t2 nt2 => ?_⟩
    refine ⟨by show 1 ≤ sizeLine; decide, fun b2 nb2 => ?_⟩
    refine ⟨p1, b2, zs, [.ref t2], rfl, rfl, kn nb2 (kn nt2 hp15), upd_same, z1000 (by show zs.length + 1 ≤ 1000; omega), fun b3 nb3 => ?_⟩
    have s7 := ((Same.new (o := .tup [.int 99, .int 99]) nt2).trans (Same.new (o := .lst [.ref t2]) nb2)).trans (Same.new (o := .lst (zs ++ [.ref t2])) nb3)
    have ht2 : upd (upd (upd H5 t2 (.tup [.int 99, .int 99])) b2 (.lst [.ref t2])) b3 (.lst (zs ++ [.ref t2])) t2 = some (.tup [.int 99, .int 99]) := kn nb3 (kn nb2 upd_same)
    have hb3 : upd (upd (upd H5 t2 (.tup [.int 99, .int 99])) b2 (.lst [.ref t2])) b3 (.lst (zs ++ [.ref t2])) b3 = some (.lst (zs ++ [.ref t2])) := upd_same
    obtain ⟨H7, e7⟩ : ∃ H7, H7 = upd (upd (upd H5 t2 (.tup [.int 99, .int 99])) b2 (.lst [.ref t2])) b3 (.lst (zs ++ [.ref t2])) := ⟨_, rfl⟩
    rw [← e7] at s7 ht2 hb3 ⊢
    clear e7 nb3 nb2 nt2 nt1
    have kb8 := kb6.trans (KB.of_same s7)
    have eX8 := (eX.tk kb8.tk).now
    have e1 := el_tup (s7 _ _ ht5) s99 s99
    have e2 := el_tup ht2 s99 s99
    have eM : Els (cnt H7) ms H7 := fun x hx => by
      rcases List.mem_append.mp (hpm5.subset hx) with q | q
      · exact eX8 x (hpm1.subset q)
      · rw [List.mem_singleton.mp q]
        exact e1.1
    have eM2 : Els (cnt H7) (zs ++ [.ref t2]) H7 := fun x hx => by
      rcases List.mem_append.mp hx with q | q
      · exact eX8 x (hpm1.subset q)
      · rw [List.mem_singleton.mp q]
        exact e2.1
    refine ⟨p5, b3, ms, zs ++ [.ref t2], cnt H7, rfl, SqL.of (s7 _ _ hp5), SqL.of hb3, eM, eM2, by rw [List.length_append, List.length_singleton]; omega, ?_, fun H8 s8 => ?_⟩
    · have h := hpm5.map (cnt H7)
      rw [List.map_append, List.map_singleton, e1.2] at h
      rw [List.map_append, List.map_singleton, e2.2]
      exact h
    refine ⟨_, rfl, iteF ?_⟩
    have s9 := s7.trans s8
    have kb9 := kb6.trans (KB.of_same s9)
    have hL9 : O.Log l5 H8 := O.stay (Stay.of_same s9) hL5
    obtain ⟨qs, hq, lg, hC9⟩ := hC l5 H8 hL9
    have ll := lg.length
    have ccl : Mir.clog (xs.length + 1) ≤ xs.length + 1 := Mir.clog_le_self _
    rw [lz] at hc5
    refine ⟨_, rfl, O.q, qs, rfl, .inl (SqL.of hq), _, rfl, _, _, ((xs.length + 1 : Nat) : Int), rfl, rfl, rfl, xs.length + 1, rfl, by omega, _, _, rfl, rfl, _, rfl, ?_⟩
    refine iteD (fun h => ?_) (fun _ => ?_)
    · have h' : ((Mir.clog (xs.length + 1) : Nat) : Int) < (qs.length : Int) := h
      simp only [List.length_nil] at hc5
      omega
    refine ⟨_, rfl, .inl ⟨rfl, _, SqL.of hq⟩, _, qs, rfl, rfl, hq, ?_⟩
    have kb10 := kb9.trans (KB.wrq (zs := []) hq)
    have hp10 : upd H8 O.q (.lst []) p5 = some (.lst ms) := (upd_ne pq5).trans (s9 _ _ hp5)
    have ht10 := (KB.wrq (zs := []) hq).tk _ _ (s9 _ _ ht5)
    obtain ⟨H10, e10⟩ : ∃ H10, H10 = upd H8 O.q (.lst []) := ⟨_, rfl⟩
    rw [← e10] at hC9 kb10 hp10 ht10 ⊢
    clear e10 hq lg ll hL9 kb9 s9 s8 eM2 eM e2 e1 eX8 kb8 ht2 hb3 s7 hc5
    -- pop
    obtain ⟨h0, t, emt⟩ : ∃ h0 t, ms = h0 :: t := by
      cases ms with
      | nil => simp at lm
      | cons h0 t => exact ⟨h0, t, rfl⟩
    have lt : t.length = xs.length := by rw [emt] at lm; simp at lm; omega
    have elM : ∀ {H1 : Hp}, TK H10 H1 → Els (cnt H1) ms H1 := fun {H1} k x hx => by
      rcases List.mem_append.mp (hpm5.subset hx) with q | q
      · exact (eX.tk (kb10.tk.trans k)).now x (hpm1.subset q)
      · rw [List.mem_singleton.mp q]
        exact (el_tup (k _ _ ht10) s99 s99).1
    have domM : ∀ {H1 : Hp}, TK H10 H1 → O.All ms H1 := fun k x hx => hD x _ (elM k x hx)
    refine ⟨_, rfl, _, rfl, O, p5, h0, t, [], rfl, by rw [← emt]; exact Row.of hp10 pq5, hC9, by rw [← emt]; exact domM (TK.refl _), by rw [← emt]; exact DatS.of (elM (TK.refl _)), by omega, by simp only [List.length_nil]; omega, fun H11 tu p11 ws l11 kb11 ntu htu np11 hp11 hL11 hc11 hpm11 _ => ?_⟩
    have kb12 := kb10.trans kb11
    have hp511 := kb11.keep _ _ pq5 hp10
    have e0 : ms[0]? = some h0 := by rw [emt]; rfl
    refine ⟨tu, _, rfl, SqT.of htu, rfl, _, _, rfl, _, _, rfl, rfl, ?_⟩
    have el11 := elM kb11.tk
    have eh := el11 h0 (by rw [emt]; exact List.mem_cons_self)
    refine ⟨_, rfl, _, rfl, p5, ms, 0, h0, rfl, rfl, SqL.of hp511, atI_nat (j := 0) e0, _, _, dp_el eh.1, dp_el eh.1, shaped_pd _, shaped_pd _, _, rfl, ?_⟩
    rw [eqv_pd, decide_eq_true rfl]
    refine iteF ?_
    refine ⟨_, rfl, by show 1 ≤ sizeLine; decide, fun b1 nb1 => ?_⟩
    have lw := hpm11.length_eq
    refine ⟨_, rfl, b1, p11, [h0], ws, rfl, rfl, upd_same, kn nb1 hp11, z1000 (by show 1 + ws.length ≤ 1000; omega), fun b2 nb2 => ?_⟩
    have s12 := (Same.new (o := .lst [h0]) nb1).trans (Same.new (o := .lst ([h0] ++ ws)) nb2)
    have hb2 : upd (upd H11 b1 (.lst [h0])) b2 (.lst ([h0] ++ ws)) b2 = some (.lst ([h0] ++ ws)) := upd_same
    obtain ⟨H12, e12⟩ : ∃ H12, H12 = upd (upd H11 b1 (.lst [h0])) b2 (.lst ([h0] ++ ws)) := ⟨_, rfl⟩
    rw [← e12] at s12 hb2 ⊢
    clear e12 nb2 nb1
    have el12 := elM (kb11.tk.trans (Same.tk s12))
    have hpmw : ([h0] ++ ws).Perm ms := by
      rw [emt]
      exact hpm11.cons h0
    refine ⟨_, rfl, b2, p5, [h0] ++ ws, ms, cnt H12, rfl, SqL.of hb2, SqL.of (s12 _ _ hp511), el12.sub fun x hx => hpmw.subset hx, el12, by omega, hpmw.map _, fun H13 s13 => ?_⟩
    refine ⟨_, rfl, iteF ?_⟩
    have s14 := s12.trans s13
    have kb14 := kb12.trans (KB.of_same s14)
    have hL14 : O.Log l11 H13 := O.stay (Stay.of_same s14) hL11
    obtain ⟨qs, hq, lg, hC14⟩ := hC l11 H13 hL14
    have ll := lg.length
    rw [lt] at hc11
    refine ⟨_, rfl, O.q, qs, rfl, .inl (SqL.of hq), _, rfl, _, _, ((xs.length + 1 : Nat) : Int), rfl, rfl, rfl, xs.length + 1, rfl, by omega, _, _, ((2 * Mir.clog (xs.length + 1) : Nat) : Int), rfl, rfl, .inl ⟨by omega, by omega⟩, (by show ((2 * Mir.clog (xs.length + 1) : Nat) : Int) = 2 * (Mir.clog (xs.length + 1) : Int); omega), _, _, rfl, rfl, _, rfl, ?_⟩
    refine iteD (fun h => ?_) (fun _ => ?_)
    · have h' : ((2 * Mir.clog (xs.length + 1) : Nat) : Int) < (qs.length : Int) := h
      simp only [List.length_nil] at hc11
      omega
    refine ⟨_, rfl, .inl ⟨rfl, _, SqL.of hq⟩, _, qs, rfl, rfl, hq, ?_⟩
    have kb15 := kb14.trans (KB.wrq (zs := []) hq)
    obtain ⟨H15, e15⟩ : ∃ H15, H15 = upd H13 O.q (.lst []) := ⟨_, rfl⟩
    rw [← e15] at hC14 kb15 ⊢
    clear e15 hq lg ll hL14 kb14 s14 s13 el12 s12 hb2 hc11 el11 eh hp511 htu hp11 np11 ntu
    -- is_heap
    refine ⟨_, rfl, _, rfl, O, a, xs, [], rfl, Row.of (kb15.keep _ _ aq ha) aq, hC14, all kb15.tk, by omega, by simp only [List.length_nil]; omega, fun H16 b l16 kb16 hL16 hc16 _ => ?_⟩
    refine ⟨.bl b, .ty "bool", _, _, true, rfl, .ty _, .base (.bl b), kit_ty (by decide +kernel), _, rfl, ?_⟩
    refine iteT ?_
    have kb17 := kb15.trans kb16
    obtain ⟨qs, hq, lg, _⟩ := hC l16 H16 hL16
    have ll := lg.length
    refine ⟨_, rfl, O.q, qs, rfl, .inl (SqL.of hq), _, rfl, _, _, ((xs.length : Int) - 1), rfl, rfl, rfl, _, _, rfl, _, _, rfl, rfl, ?_⟩
    have h := hQ H16 l16 kb17 hL16
    simp only [List.length_nil] at hc16
    rw [show (V.bl true) = V.bl (decide ((qs.length : Int) ≤ (if ((xs.length : Int) - 1) > 0 then ((xs.length : Int) - 1) else 0))) from by rw [decide_eq_true (by split <;> omega)]] at h
    exact h
end
end Ord

/-! least, ends, best, nth: what is picked, by a key. -/
namespace Mir
section
variable {α : Type} {key : α → Int}
/-! ### the first of the least -/
def leS (ans : Ans α) (s : α × List (α × α)) (e : α) : α × List (α × α) := if 0 < ans s.2 s.1 e then (e, s.2 ++ [(s.1, e)]) else (s.1, s.2 ++ [(s.1, e)])
def lea (ans : Ans α) (x : α) (xs : List α) (l : List (α × α)) : α × List (α × α) := xs.foldl (leS ans) (x, l)
theorem lea_cnt (ans : Ans α) : ∀ (xs : List α) (x : α) (l : List (α × α)), (lea ans x xs l).2.length = l.length + xs.length ∧ (lea ans x xs l).1 ∈ x :: xs
  | [], x, l => ⟨rfl, List.mem_cons_self⟩
  | y :: ys, x, l => by
    unfold lea
    rw [List.foldl_cons]
    have h := lea_cnt ans ys (leS ans (x, l) y).1 (leS ans (x, l) y).2
    have e : (leS ans (x, l) y).2 = l ++ [(x, y)] := by unfold leS; split <;> rfl
    have e1 : (leS ans (x, l) y).1 = x ∨ (leS ans (x, l) y).1 = y := by unfold leS; split; exact .inr rfl; exact .inl rfl
    refine ⟨?_, ?_⟩
    · show (lea ans (leS ans (x, l) y).1 ys (leS ans (x, l) y).2).2.length = _
      rw [h.1, e, List.length_append, List.length_singleton, List.length_cons]
      omega
    · have h2 := h.2
      unfold lea at h2
      rcases List.mem_cons.mp h2 with q | q
      · rw [q]
        rcases e1 with z | z
        · rw [z]; exact List.mem_cons_self
        · rw [z]; exact List.mem_cons_of_mem _ List.mem_cons_self
      · exact List.mem_cons_of_mem _ (List.mem_cons_of_mem _ q)
theorem lea_key {ans : Ans α} (A : KeyA ans key) : ∀ (xs p : List α) (x : α) (l : List (α × α)), (∀ y ∈ p, key x ≤ key y) → (ofK key (key x) p).head? = some x →
    (∀ y ∈ p ++ xs, key (lea ans x xs l).1 ≤ key y) ∧ (ofK key (key (lea ans x xs l).1) (p ++ xs)).head? = some (lea ans x xs l).1
  | [], p, x, l, h1, h2 => by rw [List.append_nil]; exact ⟨h1, h2⟩
  | e :: ys, p, x, l, h1, h2 => by
    have ep : p ++ e :: ys = (p ++ [e]) ++ ys := by simp
    rw [ep]
    have hs : lea ans x (e :: ys) l = lea ans (leS ans (x, l) e).1 ys (leS ans (x, l) e).2 := rfl
    rw [hs]
    by_cases q : 0 < ans l x e
    · have k := (A.pos l x e).mp q
      have e1 : leS ans (x, l) e = (e, l ++ [(x, e)]) := if_pos q
      rw [e1]
      refine lea_key A ys (p ++ [e]) e _ (fun y hy => ?_) ?_
      · rcases List.mem_append.mp hy with z | z
        · have := h1 y z; omega
        · rw [List.mem_singleton.mp z]; exact Int.le_refl _
      · rw [ofK_append, ofK_none (xs := p) (fun y hy => by have := h1 y hy; omega), ofK_cons, if_pos rfl]
        rfl
    · have k : key x ≤ key e := by
        have : ¬ key e < key x := fun z => q ((A.pos l x e).mpr z)
        omega
      have e1 : leS ans (x, l) e = (x, l ++ [(x, e)]) := if_neg q
      rw [e1]
      refine lea_key A ys (p ++ [e]) x _ (fun y hy => ?_) ?_
      · rcases List.mem_append.mp hy with z | z
        · exact h1 y z
        · rw [List.mem_singleton.mp z]; exact k
      · rw [ofK_append, List.head?_append, h2]
        rfl
theorem head_isort {xs : List α} {z : α} (h1 : ∀ y ∈ xs, key z ≤ key y) (h2 : (ofK key (key z) xs).head? = some z) : (isort key xs).head? = some z := by
  obtain ⟨hs, hk⟩ := isort_srt key xs
  have hz : z ∈ ofK key (key z) xs := List.mem_of_head? h2
  have e := hk (key z)
  rw [← e] at h2
  cases hi : isort key xs with
  | nil =>
    rw [hi] at h2
    cases h2
  | cons y ys =>
    rw [hi] at h2 hs
    obtain ⟨s1, s2⟩ := List.pairwise_cons.mp hs
    have hy : y ∈ xs := isort_mem (by rw [hi]; exact List.mem_cons_self)
    have h3 := h1 y hy
    have hz2 : z ∈ y :: ys := (List.mem_filter.mp (List.mem_of_head? h2)).1
    have h4 : key y ≤ key z := by
      rcases List.mem_cons.mp hz2 with q | q
      · rw [q]; exact Int.le_refl _
      · exact s1 z q
    rw [ofK_cons, if_pos (by omega)] at h2
    exact h2
theorem lea_isort {ans : Ans α} (A : KeyA ans key) (x : α) (xs : List α) (l : List (α × α)) : (isort key (x :: xs)).head? = some (lea ans x xs l).1 := by
  have h := lea_key A xs [x] x l (fun y hy => by rw [List.mem_singleton.mp hy]; exact Int.le_refl _) (by rw [ofK_cons, if_pos rfl]; rfl)
  exact head_isort h.1 h.2
/-! ### put in its place -/
def ins (key : α → Int) (e : α) : List α → List α
  | [] => [e]
  | x :: xs => if key x ≤ key e then x :: ins key e xs else e :: x :: xs
theorem ins_mem (e : α) : ∀ (s : List α) (z : α), z ∈ ins key e s → z = e ∨ z ∈ s
  | [], z, h => .inl (List.mem_singleton.mp h)
  | x :: xs, z, h => by
    unfold ins at h
    split at h
    · rcases List.mem_cons.mp h with q | q
      · exact .inr (by rw [q]; exact List.mem_cons_self)
      · rcases ins_mem e xs z q with q | q
        · exact .inl q
        · exact .inr (List.mem_cons_of_mem _ q)
    · rcases List.mem_cons.mp h with q | q
      · exact .inl q
      · exact .inr q
theorem ins_srt (e : α) : ∀ (s : List α), Srt key s → Srt key (ins key e s) ∧ ∀ k, ofK key k (ins key e s) = ofK key k s ++ ofK key k [e]
  | [], _ => ⟨List.pairwise_singleton _ _, fun k => rfl⟩
  | x :: xs, h => by
    obtain ⟨x1, x2⟩ := List.pairwise_cons.mp h
    unfold ins
    split
    · next hk =>
      obtain ⟨i1, i2⟩ := ins_srt e xs x2
      refine ⟨List.pairwise_cons.mpr ⟨fun z hz => ?_, i1⟩, fun k => ?_⟩
      · rcases ins_mem e xs z hz with q | q
        · rw [q]; exact hk
        · exact x1 z q
      · rw [ofK_cons, i2, ofK_cons key k x xs]
        split <;> rfl
    · next hk =>
      refine ⟨List.pairwise_cons.mpr ⟨fun z hz => ?_, h⟩, fun k => ?_⟩
      · rcases List.mem_cons.mp hz with q | q
        · rw [q]; omega
        · have := x1 z q; omega
      · rw [ofK_cons key k e, ofK_cons key k e [], ofK_nil]
        by_cases q : key e = k
        · rw [if_pos q, if_pos q, ofK_none (xs := x :: xs) (fun z hz => by
            rcases List.mem_cons.mp hz with t | t
            · rw [t]; omega
            · have := x1 z t; omega)]
          rfl
        · rw [if_neg q, if_neg q, List.append_nil]
theorem ins_ins1 (e : α) {s : List α} (h : Srt key s) : ins1 key s e = ins key e s :=
  sort_uniq key _ _ (ins1_srt e h).1 (ins_srt e s h).1 fun k => by rw [(ins1_srt e h).2, (ins_srt e s h).2]
theorem isort_ins (xs : List α) (e : α) : isort key (xs ++ [e]) = ins key e (isort key xs) := by
  rw [isort_snoc, ins_ins1 e (isort_srt key xs).1]
theorem ins_take (e : α) : ∀ (s : List α) (m : Nat), (ins key e (s.take m)).take m = (ins key e s).take m
  | s, 0 => by simp
  | [], m + 1 => by simp
  | x :: xs, m + 1 => by
    rw [List.take_succ_cons]
    unfold ins
    split
    · rw [List.take_succ_cons, List.take_succ_cons, ins_take e xs m]
    · rw [List.take_succ_cons, List.take_succ_cons]
      cases m with
      | zero => rfl
      | succ m => rw [List.take_succ_cons, List.take_succ_cons, List.take_take, Nat.min_eq_left (Nat.le_succ m)]
theorem ins_keep (e : α) : ∀ (s : List α) (m : Nat), m ≤ s.length → (∀ x ∈ s.take m, key x ≤ key e) → (ins key e s).take m = s.take m
  | s, 0, _, _ => by simp
  | [], m + 1, h, _ => by simp at h
  | x :: xs, m + 1, h, hk => by
    unfold ins
    rw [if_pos (hk x (by rw [List.take_succ_cons]; exact List.mem_cons_self)), List.take_succ_cons, List.take_succ_cons, ins_keep e xs m (by simpa using h) fun y hy => hk y (by rw [List.take_succ_cons]; exact List.mem_cons_of_mem _ hy)]
theorem ins_cut (e : α) : ∀ (s : List α), Srt key s → s.take (s.filter fun x => decide (key x ≤ key e)).length ++ [e] ++ s.drop (s.filter fun x => decide (key x ≤ key e)).length = ins key e s
  | [], _ => rfl
  | x :: xs, h => by
    obtain ⟨x1, x2⟩ := List.pairwise_cons.mp h
    unfold ins
    by_cases q : key x ≤ key e
    · rw [if_pos q, List.filter_cons, if_pos (decide_eq_true q), List.length_cons, List.take_succ_cons, List.drop_succ_cons, ← ins_cut e xs x2]
      rfl
    · rw [if_neg q, List.filter_cons, if_neg (by rw [decide_eq_false q]; exact Bool.false_ne_true), List.filter_eq_nil_iff.mpr fun z hz => by
        have := x1 z hz
        rw [decide_eq_false (by omega)]
        exact Bool.false_ne_true]
      rfl
/-- where the search for the place ends, and the row with the element there -/
theorem upper_ins {ans : Ans α} (A : KeyA ans key) {s : List α} (h : Srt key s) (e : α) (l : List (α × α)) :
    s.take (bsr (fun i => decide (i ≤ 0)) ans s e s.length 0 s.length l).1 ++ [e] ++ s.drop (bsr (fun i => decide (i ≤ 0)) ans s e s.length 0 s.length l).1 = ins key e s := by
  have fd := bsr_find (fun i => decide (i ≤ 0)) ans s e (s.filter fun x => decide (key x ≤ key e)).length (List.length_filter_le _ _) (fun l i x hx => by
      rw [← cut_place h (fun z => decide (z ≤ key e)) (fun a b hab hb => decide_eq_true (Int.le_trans hab (of_decide_eq_true hb))) i x hx, decide_eq_true_iff, decide_eq_true_iff]
      exact A.le l x e) s.length 0 s.length l (Nat.zero_le _) (List.length_filter_le _ _) (Nat.le_refl _) (by omega)
  rw [fd]
  exact ins_cut e s h
/-- one turn of best -/
theorem best_step (xs : List α) (e : α) (m : Nat) : (isort key (xs ++ [e])).take m = (ins key e ((isort key xs).take m)).take m := by
  rw [isort_ins, ins_take]
theorem best_keep (xs : List α) (e z : α) (m : Nat) (hm : m ≤ xs.length) (hz : ((isort key xs).take m).getLast? = some z) (hk : key z ≤ key e) : (isort key (xs ++ [e])).take m = (isort key xs).take m := by
  rw [isort_ins]
  refine ins_keep e _ m (by rw [isort_len]; exact hm) fun x hx => ?_
  obtain ⟨r, er⟩ := List.getLast?_eq_some_iff.mp hz
  have hs : Srt key ((isort key xs).take m) := List.Pairwise.sublist (List.take_sublist _ _) (isort_srt key xs).1
  rw [er] at hs hx
  rcases List.mem_append.mp hx with q | q
  · have := (List.pairwise_append.mp hs).2.2 x q z List.mem_cons_self
    omega
  · rw [List.mem_singleton.mp q]
    exact hk
end
end Mir

namespace Ord
open PySem PySem.Spec PyProof.Rows L2 LamX
section
variable {P : Program} {w : World} {K : PySem.W.Frag} {mg : Str → Option Value} {base : Heap}
def spMerged (P : Program) (w : World) (K : PySem.W.Frag) (mg : Str → Option Value) (base : Heap) : Sp := fun vs H Q _ => ∃ (O : Orc P w K mg base) (a b : Addr) (xs ys : List V) (l : Lg), vs = [.ref a, .ref b, .ref O.f] ∧
  H a = some (.lst xs) ∧ H b = some (.lst ys) ∧ a ≠ O.q ∧ b ≠ O.q ∧ O.Log l H ∧ O.All xs H ∧ O.All ys H ∧ xs.length + ys.length ≤ 1000 ∧ l.length + xs.length + ys.length ≤ 100000 ∧
  ∀ H' p, KB O.q H H' → H p = none → H' p = some (.lst (Mir.mrg O.ans xs ys l).1) → O.Log (Mir.mrg O.ans xs ys l).2 H' → Q (.ref p) H'
def N_merged : List Str := ["one", "other", "order", "found", "at", "beside"]
theorem sc_merged : FnScope ["one", "other", "order", "found", "at", "beside"] ["one", "other", "order"] (defScope st_merged) := ⟨rfl, rfl, rfl, by decide +kernel, rfl, by decide +kernel, by decide +kernel⟩
theorem ok_merged (d_merged : Df K mg "merged" st_merged ["one", "other", "order"]) (mLen : mg "len" = none) : FnOk P w K mg base CX0 4 d_merged.f d_merged.fd ["one", "other", "order"] (spMerged P w K mg base) := by
  refine d_merged.F.ok sc_merged (fun vs H Q E h => ?_) (fun cdv A outer s H vs Q E hr h => ?_)
  · obtain ⟨O, a, b, xs, ys, l, rfl, _⟩ := h
    rfl
  · obtain ⟨O, a, b, xs, ys, l, rfl, ha, hb, aq, bq, hL, dx, dy, hz, hc, k⟩ := h
    have nd := sc_merged.nd
    refine ⟨_, (pss_cons (ps_set (i := 3) nd rfl (Or.inl rfl) (pe_lst pa_nil))
  (pss_cons (ps_set (i := 4) nd rfl (Or.inl rfl) pe_int)
  (pss_cons (ps_set (i := 5) nd rfl (Or.inl rfl) pe_int)
  (pss_cons (ps_while PassesOwn.never (PW.pt (pw_and (pt_cmpR op_lt (pv 4) (pe_len mLen (pv 0)) (nomark _)) (pw_and1 (pt_cmpR op_lt (pv 5) (pe_len mLen (pv 1)) (nomark _)))))
    (pss_one (ps_if (pt_cmpR op_le (pe_callV O.run (hr.mono (by omega)) (pa_cons (pe_ix ix_list (pv 0) (pv 4) (fun _ _ => rfl)) (pa_cons (pe_ix ix_list (pv 1) (pv 5) (fun _ _ => rfl)) pa_nil)) (i := 2)) pe_int (nomark _))
    (pss_cons (ps_expr (pe_bm PySem.F.plainAttrs_list PySem.F.slot_list_append PySem.F.type_list_append mt_append (pv 3) (pa_cons (pe_ix ix_list (pv 0) (pv 4) (fun _ _ => rfl)) pa_nil)))
  (pss_one (ps_set (i := 4) nd rfl (Or.inl rfl) (pe_op op_addE (pv 4) pe_int))))
    (pss_cons (ps_expr (pe_bm PySem.F.plainAttrs_list PySem.F.slot_list_append PySem.F.type_list_append mt_append (pv 3) (pa_cons (pe_ix ix_list (pv 1) (pv 5) (fun _ _ => rfl)) pa_nil)))
  (pss_one (ps_set (i := 5) nd rfl (Or.inl rfl) (pe_op op_addE (pv 5) pe_int)))))))
  (pss_one (ps_ret (pe_op op_cat (pe_op op_cat (pv 3) (pe_slice sl_list (pv 0) (po_some (pv 4)) po_none)) (pe_slice sl_list (pv 1) (po_some (pv 5)) po_none)))))))), ?_⟩
    refine ⟨Nat.zero_le _, fun p np => ?_⟩
    refine ⟨fun m σ H' => ∃ (i j : Nat) (fs : List V) (l' : Lg), σ = [some (.ref a), some (.ref b), some (.ref O.f), some (.ref p), some (.int i), some (.int j)] ∧ i ≤ xs.length ∧ j ≤ ys.length ∧ m = (xs.length - i) + (ys.length - j) ∧
      KB O.q H H' ∧ H' p = some (.lst fs) ∧ O.Log l' H' ∧ fs.length = i + j ∧ l'.length = l.length + i + j ∧ (Mir.mrg O.ans xs ys l).1 = fs ++ (Mir.mrg O.ans (xs.drop i) (ys.drop j) l').1 ∧ (Mir.mrg O.ans xs ys l).2 = (Mir.mrg O.ans (xs.drop i) (ys.drop j) l').2,
      ⟨_, 0, 0, [], l, rfl, Nat.zero_le _, Nat.zero_le _, rfl, KB.new np, upd_same, O.new hL np, rfl, rfl, rfl, rfl⟩, ?_⟩
    rintro m σ H' ⟨i, j, fs, l', rfl, hi, hj, hm, kb, hp, hL', hfs, hl', e1, e2⟩
    have pq : p ≠ O.q := Orc.nq hL np
    have ha' : H' a = some (.lst xs) := kb.keep _ _ aq ha
    have hb' : H' b = some (.lst ys) := kb.keep _ _ bq hb
    have cx : cutV xs (some (i : Int)) none = xs.drop i := cut_from1 xs i
    have cy : cutV ys (some (j : Int)) none = ys.drop j := cut_from1 ys j
    have lx : (xs.drop i).length = xs.length - i := List.length_drop
    have ly : (ys.drop j).length = ys.length - j := List.length_drop
    -- behind the loop
    have fin : (¬ i < xs.length ∨ ¬ j < ys.length) → (tRet (tOp rCat (tOp rCat (tVar 3) (tSl (rSlL K) (tVar 0) (tPart (tVar 4)) tNoPart)) (tSl (rSlL K) (tVar 1) (tPart (tVar 5)) tNoPart))) { nx := fun _ H' => Q .non H', rt := Q } [some (.ref a), some (.ref b), some (.ref O.f), some (.ref p), some (.int i), some (.int j)] H' := by
      intro hne
      refine ⟨_, rfl, _, rfl, _, rfl, _, rfl, _, _, rfl, SqL.of ha', fun p1 n1 => ?_⟩
      rw [cx]
      refine ⟨p, p1, fs, xs.drop i, rfl, rfl, (upd_ne (ne_of_none hp n1)).trans hp, upd_same, z1000 (by omega), fun p2 n2 => ?_⟩
      refine ⟨_, rfl, _, rfl, _, rfl, _, _, rfl, SqL.of ((upd_ne (ne_of_none ((upd_ne (ne_of_none hb' n1)).trans hb') n2)).trans ((upd_ne (ne_of_none hb' n1)).trans hb')), fun p3 n3 => ?_⟩
      rw [cy]
      refine ⟨p2, p3, fs ++ xs.drop i, ys.drop j, rfl, rfl, (upd_ne (ne_of_none upd_same n3)).trans upd_same, upd_same, z1000 (by rw [List.length_append]; omega), fun p4 n4 => ?_⟩
      have kb4 : KB O.q H (upd (upd (upd (upd H' p1 (.lst (xs.drop i))) p2 (.lst (fs ++ xs.drop i))) p3 (.lst (ys.drop j))) p4 (.lst (fs ++ xs.drop i ++ ys.drop j))) := (((kb.trans (KB.new n1)).trans (KB.new n2)).trans (KB.new n3)).trans (KB.new n4)
      have hL4 := Orc.new (o := .lst (fs ++ xs.drop i ++ ys.drop j)) (Orc.new (o := .lst (ys.drop j)) (Orc.new (o := .lst (fs ++ xs.drop i)) (Orc.new (o := .lst (xs.drop i)) hL' n1) n2) n3) n4
      have em : Mir.mrg O.ans (xs.drop i) (ys.drop j) l' = (xs.drop i ++ ys.drop j, l') := by
        rcases hne with z | z
        · rw [List.drop_of_length_le (by omega : xs.length ≤ i), Mir.mrg_nil]
          rfl
        · rw [List.drop_of_length_le (by omega : ys.length ≤ j), Mir.mrg_nil2, List.append_nil]
      rw [em] at e1 e2
      refine k _ p4 kb4 (kb.free (Orc.nq hL' (upd_none (upd_none (upd_none n4)))) (upd_none (upd_none (upd_none n4)))) ?_ (by rw [e2]; exact hL4)
      rw [e1, upd_same, List.append_assoc]
    have lenA : ∀ {b : Bool → Prop}, True := fun {_} => True.intro
    refine ⟨_, rfl, _, rfl, a, xs, rfl, .inl (SqL.of ha'), _, _, rfl, rfl, _, rfl, ?_⟩
    refine iteD (fun h1 => ?_) (fun h1 => iteF (fin (.inl (by omega))))
    refine ⟨_, rfl, _, rfl, b, ys, rfl, .inl (SqL.of hb'), _, _, rfl, rfl, _, rfl, ?_⟩
    refine iteD (fun h2 => ?_) (fun h2 => fin (.inr (by omega)))
    have h1' : i < xs.length := by omega
    have h2' : j < ys.length := by omega
    obtain ⟨x, ex⟩ : ∃ x, xs[i]? = some x := ⟨_, List.getElem?_eq_getElem h1'⟩
    obtain ⟨y, ey⟩ : ∃ y, ys[j]? = some y := ⟨_, List.getElem?_eq_getElem h2'⟩
    rw [Mir.drop_cons ex, Mir.drop_cons ey, Mir.mrg_cons] at e1 e2
    refine ⟨_, fun _ _ h => h, ?_⟩
    -- the question
    refine ⟨rfl, O.isf hL', _, rfl, _, rfl, a, xs, _, x, rfl, rfl, SqL.of ha', atI_nat ex, _, rfl, _, rfl, b, ys, _, y, rfl, rfl, SqL.of hb', atI_nat ey, O.isf hL', x, y, l', rfl, hL', by omega, (dx.tk kb.tk).get ex, (dy.tk kb.tk).get ey, fun H1 kb1 hL1 => ?_⟩
    have kb' := kb.trans kb1
    have hp1 := kb1.keep _ _ pq hp
    have ha1 := kb1.keep _ _ aq ha'
    have hb1 := kb1.keep _ _ bq hb'
    refine ⟨_, _, rfl, rfl, _, rfl, ?_⟩
    refine iteD (fun hc => ?_) (fun hc => ?_)
    · rw [if_pos hc] at e1 e2
      refine ⟨_, rfl, .inl ⟨rfl, _, SqL.of hp1⟩, _, rfl, _, rfl, a, xs, _, x, rfl, rfl, SqL.of ha1, atI_nat ex, p, fs, x, rfl, rfl, hp1, small1000 (by omega), ?_⟩
      refine ⟨_, rfl, _, _, ((i + 1 : Nat) : Int), rfl, rfl, rfl, ?_⟩
      refine ⟨_, ?_, i + 1, j, fs ++ [x], _, rfl, by omega, by omega, rfl, kb'.wr np, upd_same, Orc.wr hL1 hp1 nf_lst pq, ?_, ?_, ?_, ?_⟩
      · omega
      · rw [List.length_append, List.length_singleton]
        omega
      · rw [List.length_append, List.length_singleton]
        omega
      · rw [e1, Mir.drop_cons ey]
        simp
      · rw [e2, Mir.drop_cons ey]
    · rw [if_neg hc] at e1 e2
      refine ⟨_, rfl, .inl ⟨rfl, _, SqL.of hp1⟩, _, rfl, _, rfl, b, ys, _, y, rfl, rfl, SqL.of hb1, atI_nat ey, p, fs, y, rfl, rfl, hp1, small1000 (by omega), ?_⟩
      refine ⟨_, rfl, _, _, ((j + 1 : Nat) : Int), rfl, rfl, rfl, ?_⟩
      refine ⟨_, ?_, i, j + 1, fs ++ [y], _, rfl, by omega, by omega, rfl, kb'.wr np, upd_same, Orc.wr hL1 hp1 nf_lst pq, ?_, ?_, ?_, ?_⟩
      · omega
      · rw [List.length_append, List.length_singleton]
        omega
      · rw [List.length_append, List.length_singleton]
        omega
      · rw [e1, Mir.drop_cons ex]
        simp
      · rw [e2, Mir.drop_cons ex]
end
end Ord

namespace Ord
open PySem PySem.Spec PyProof.Rows L2 LamX
section
variable {P : Program} {w : World} {K : PySem.W.Frag} {mg : Str → Option Value} {base : Heap}
def spStable (P : Program) (w : World) (K : PySem.W.Frag) (mg : Str → Option Value) (base : Heap) (n : Nat) : Sp := fun vs H Q _ => ∃ (O : Orc P w K mg base) (a : Addr) (xs : List V) (l : Lg), vs = [.ref a, .ref O.f] ∧
  Row K O.q H a xs ∧ O.Log l H ∧ O.All xs H ∧ xs.length ≤ 2 ^ n ∧ xs.length ≤ 1000 ∧ l.length + xs.length * Mir.clog xs.length ≤ 90000 ∧
  ∀ H' p, KB O.q H H' → H p = none → H' p = some (.lst (Mir.stab O.ans xs l).1) → O.Log (Mir.stab O.ans xs l).2 H' → Q (.ref p) H'
def N_stable : List Str := ["row", "order", "half", "one", "other"]
theorem sc_stable : FnScope ["row", "order", "half", "one", "other"] ["row", "order"] (defScope st_stable) := ⟨rfl, rfl, rfl, by decide +kernel, rfl, by decide +kernel, by decide +kernel⟩
theorem ok_stable (d_stable : Df K mg "stable" st_stable ["row", "order"]) (d_merged : Df K mg "merged" st_merged ["one", "other", "order"]) (mLen : mg "len" = none) (mList : mg "list" = none) : ∀ n, FnOk P w K mg base CX0 (n + 5) d_stable.f d_stable.fd ["row", "order"] (spStable P w K mg base n) := by
  have G_merged : FnOk P w K mg base CX0 4 d_merged.f d_merged.fd ["one", "other", "order"] (spMerged P w K mg base) := ok_merged d_merged mLen
  intro n
  induction n with
  | zero =>
    refine d_stable.F.ok sc_stable (fun vs H Q E h => ?_) (fun cdv A outer s H vs Q E hr h => ?_)
    · obtain ⟨O, a, xs, l, rfl, _⟩ := h
      rfl
    · obtain ⟨O, a, xs, l, rfl, hR, hL, dx, hn, hz, hc, k⟩ := h
      refine ⟨_, pss_cons (ps_if (pt_cmpR op_lt (pe_len mLen (pv 0)) pe_int (nomark _)) (pss_one (ps_ret (pe_callTy call_list_of (by rfl) mList (by decide +kernel) (pa_cons (pv 0) pa_nil)))) pss_nil)
        (pss_cons ps_never (pss_cons ps_never (pss_cons ps_never (pss_cons ps_never (pss_one ps_never))))), ?_⟩
      refine ⟨_, rfl, a, xs, rfl, .inl hR.1, _, _, rfl, rfl, _, rfl, ?_⟩
      refine iteD (fun h1 => ?_) (fun h1 => (h1 (by simp only [Nat.pow_zero] at hn; omega)).elim)
      refine ⟨_, rfl, a, xs, rfl, .inl hR.1, fun p np => ?_⟩
      have e := Mir.stab_small O.ans l (xs := xs) (by simp only [Nat.pow_zero] at hn; omega)
      rw [e] at k
      exact k _ p (KB.new np) np upd_same (Orc.new hL np)
  | succ n G_stable =>
    refine d_stable.F.ok sc_stable (fun vs H Q E h => ?_) (fun cdv A outer s H vs Q E hr h => ?_)
    · obtain ⟨O, a, xs, l, rfl, _⟩ := h
      rfl
    · obtain ⟨O, a, xs, l, rfl, hR, hL, dx, hn, hz, hc, k⟩ := h
      have nd := sc_stable.nd
      refine ⟨_, (pss_cons (ps_if (pt_cmpR op_lt (pe_len mLen (pv 0)) pe_int (nomark _))
    (pss_one (ps_ret (pe_callTy call_list_of (by rfl) mList (by decide +kernel) (pa_cons (pv 0) pa_nil))))
    pss_nil)
  (pss_cons (ps_set (i := 2) nd rfl (Or.inl rfl) (pe_op op_fdivE (pe_op op_addE (pe_len mLen (pv 0)) pe_int) pe_int))
  (pss_cons (ps_set (i := 3) nd rfl (Or.inl rfl) (pe_cd (d := d_stable) G_stable (hr.mono (by omega)) (pa_cons (pe_slice sl_list (pv 0) po_none (po_some (pv 2))) (pa_cons (pv 1) pa_nil))))
  (pss_cons (ps_set (i := 4) nd rfl (Or.inl rfl) (pe_cd (d := d_stable) G_stable (hr.mono (by omega)) (pa_cons (pe_slice sl_list (pv 0) (po_some (pv 2)) po_none) (pa_cons (pv 1) pa_nil))))
  (pss_cons (ps_if (pt_cmpR op_le (pe_callV O.run (hr.mono (by omega)) (pa_cons (pe_ix ix_list (pv 3) (pe_un un_neg pe_int) (fun _ _ => rfl)) (pa_cons (pe_ix ix_list (pv 4) pe_int (fun _ _ => rfl)) pa_nil)) (i := 1)) pe_int (nomark _))
    (pss_one (ps_ret (pe_op op_cat (pv 3) (pv 4))))
    pss_nil)
  (pss_one (ps_ret (pe_cd (d := d_merged) G_merged (hr.mono (by omega)) (pa_cons (pv 3) (pa_cons (pv 4) (pa_cons (pv 1) pa_nil))))))))))), ?_⟩
      refine ⟨_, rfl, a, xs, rfl, .inl hR.1, _, _, rfl, rfl, _, rfl, ?_⟩
      refine iteD (fun h1 => ?_) (fun h1 => ?_)
      · refine ⟨_, rfl, a, xs, rfl, .inl hR.1, fun p np => ?_⟩
        have e := Mir.stab_small O.ans l (xs := xs) (by omega)
        rw [e] at k
        exact k _ p (KB.new np) np upd_same (Orc.new hL np)
      · have h2 : ¬ xs.length < 2 := by omega
        obtain ⟨h, eh⟩ : ∃ h : Nat, h = (xs.length + 1) / 2 := ⟨_, rfl⟩
        have hh : 1 ≤ h ∧ h < xs.length ∧ xs.length ≤ 2 * h ∧ h ≤ 2 ^ n := by
          rw [Nat.pow_succ] at hn
          omega
        refine ⟨_, rfl, a, xs, rfl, .inl hR.1, _, _, _, rfl, rfl, rfl, _, _, (h : Nat), rfl, rfl, ⟨by decide, by decide⟩, by show ((h : Nat) : Int) = ((xs.length : Int) + 1) / 2; omega, ?_⟩
        have cx : cutV xs none (some (h : Int)) = xs.take h := cut_to1 xs h
        have cy : cutV xs (some (h : Int)) none = xs.drop h := cut_from1 xs h
        have tx : (xs.take h).length = h := by rw [List.length_take]; omega
        have ty : (xs.drop h).length = xs.length - h := List.length_drop
        obtain ⟨c, ec⟩ : ∃ c, c = Mir.clog h := ⟨_, rfl⟩
        have ecn : Mir.clog xs.length = c + 1 := by rw [Mir.clog_half h2, ← eh, ec]
        have ec2 : Mir.clog (xs.length - h) ≤ c := by rw [ec]; exact Mir.clog_mono (by omega)
        have em3 := Nat.mul_le_mul_left (xs.length - h) ec2
        have em4 : h * c + (xs.length - h) * c = xs.length * c := by
          rw [← Nat.add_mul]
          congr 1
          omega
        have em5 : xs.length * (c + 1) = xs.length * c + xs.length := Nat.mul_succ _ _
        rw [ecn, em5] at hc
        -- one = stable(row[:half], order)
        refine ⟨_, rfl, _, rfl, _, rfl, a, xs, rfl, hR.1, fun p1 n1 => ?_⟩
        rw [cx]
        refine ⟨_, rfl, O, p1, xs.take h, l, rfl, Row.of upd_same (Orc.nq hL n1), Orc.new hL n1, fun x hx => O.dom (TK.new n1) (dx x (List.mem_of_mem_take hx)), by omega, by omega, by rw [tx, ← ec]; omega, fun H1 p2 kb1 n2 hp2 hL1 => ?_⟩
        have kbA : KB O.q H H1 := (KB.new n1).trans kb1
        have n2' : H p2 = none := upd_none n2
        have p2q : p2 ≠ O.q := Orc.nq hL n2'
        obtain ⟨A, eA⟩ : ∃ A, A = Mir.stab O.ans (xs.take h) l := ⟨_, rfl⟩
        rw [← eA] at hp2 hL1
        have qA := Mir.stab_cnt O.ans _ (xs.take h) l (Nat.le_refl _)
        rw [← eA, tx, ← ec] at qA
        -- other = stable(row[half:], order)
        refine ⟨_, rfl, _, rfl, _, rfl, a, xs, rfl, (hR.kb kbA).1, fun p3 n3 => ?_⟩
        rw [cy]
        refine ⟨_, rfl, O, p3, xs.drop h, A.2, rfl, Row.of upd_same (Orc.nq hL1 n3), Orc.new hL1 n3, fun x hx => O.dom (TK.new n3) (O.dom kbA.tk (dx x (List.mem_of_mem_drop hx))), by omega, by omega, by rw [ty]; omega, fun H2 p4 kb2 n4 hp4 hL2 => ?_⟩
        have kbB : KB O.q H1 H2 := (KB.new n3).trans kb2
        have n4' : H1 p4 = none := upd_none n4
        have p4q : p4 ≠ O.q := Orc.nq hL1 n4'
        obtain ⟨B, eB⟩ : ∃ B, B = Mir.stab O.ans (xs.drop h) A.2 := ⟨_, rfl⟩
        rw [← eB] at hp4 hL2
        have qB := Mir.stab_cnt O.ans _ (xs.drop h) A.2 (Nat.le_refl _)
        rw [← eB, ty] at qB
        have hp2' : H2 p2 = some (.lst A.1) := kbB.keep _ _ p2q hp2
        have kbC : KB O.q H H2 := kbA.trans kbB
        have lA : A.1.length = h := by rw [eA, Mir.stab_len O.ans _ _ _ (Nat.le_refl _), tx]
        have lB : B.1.length = xs.length - h := by rw [eB, Mir.stab_len O.ans _ _ _ (Nat.le_refl _), ty]
        have dA : O.All A.1 H2 := fun x hx => O.dom kbC.tk (dx x (List.mem_of_mem_take (Mir.stab_mem O.ans _ _ _ _ (Nat.le_refl _) (by rw [← eA]; exact hx))))
        have dB : O.All B.1 H2 := fun x hx => O.dom kbC.tk (dx x (List.mem_of_mem_drop (Mir.stab_mem O.ans _ _ _ _ (Nat.le_refl _) (by rw [← eB]; exact hx))))
        obtain ⟨x, ex⟩ : ∃ x, A.1.getLast? = some x := by
          rw [List.getLast?_eq_getElem?]
          exact ⟨_, List.getElem?_eq_getElem (by omega)⟩
        obtain ⟨y, ey⟩ : ∃ y, B.1[0]? = some y := ⟨_, List.getElem?_eq_getElem (by omega)⟩
        have eS : Mir.stab O.ans xs l = _ := Mir.stab_step O.ans l h2 (a := A) (b := B) (by rw [eA, eh]) (by rw [eB, eh]) ex (by rw [List.head?_eq_getElem?]; exact ey)
        rw [eS] at k
        have mx : x ∈ A.1 := List.mem_of_getLast? ex
        have my : y ∈ B.1 := List.mem_of_getElem? ey
        have ax : atI A.1 (-1) = some x := by
          obtain ⟨r, er⟩ := List.getLast?_eq_some_iff.mp ex
          rw [er]
          exact atI_last r x
        -- the question
        refine ⟨rfl, O.isf hL2, _, rfl, _, rfl, p2, A.1, _, x, rfl, rfl, SqL.of hp2', ax, _, rfl, p4, B.1, _, y, rfl, rfl, SqL.of hp4, atI_nat (j := 0) ey, O.isf hL2, x, y, B.2, rfl, hL2, by omega, dA x mx, dB y my, fun H3 kb3 hL3 => ?_⟩
        have kbD : KB O.q H H3 := kbC.trans kb3
        have hp2'' := kb3.keep _ _ p2q hp2'
        have hp4'' := kb3.keep _ _ p4q hp4
        refine ⟨_, _, rfl, rfl, _, rfl, ?_⟩
        refine iteD (fun hq => ?_) (fun hq => ?_)
        · rw [if_pos hq] at k
          refine ⟨_, rfl, _, rfl, p2, p4, A.1, B.1, rfl, rfl, hp2'', hp4'', z1000 (by omega), fun p5 n5 => ?_⟩
          exact k _ p5 (kbD.trans (KB.new n5)) (kbD.free (Orc.nq hL3 n5) n5) upd_same (Orc.new hL3 n5)
        · rw [if_neg hq] at k
          refine ⟨_, rfl, _, rfl, _, rfl, O, p2, p4, A.1, B.1, _, rfl, hp2'', hp4'', p2q, p4q, hL3, dA.tk kb3.tk, dB.tk kb3.tk, by omega, by rw [List.length_append, List.length_singleton]; omega, fun H4 p5 kb4 n5 hp5 hL5 => ?_⟩
          exact k H4 p5 (kbD.trans kb4) (kbD.free (Orc.nq hL3 n5) n5) hp5 hL5
end
end Ord

namespace Ord
open PySem PySem.Spec PyProof.Rows L2 LamX
section
variable {P : Program} {w : World} {K : PySem.W.Frag} {mg : Str → Option Value} {base : Heap}
def spLower (P : Program) (w : World) (K : PySem.W.Frag) (mg : Str → Option Value) (base : Heap) (pt : Int → Bool) : Sp := fun vs H Q _ => ∃ (O : Orc P w K mg base) (a : Addr) (xs : List V) (x : V) (l : Lg), vs = [.ref a, x, .ref O.f] ∧
  Row K O.q H a xs ∧ O.Log l H ∧ O.All xs H ∧ O.Dom x H ∧ xs.length ≤ 1000 ∧ l.length + xs.length ≤ 90000 ∧
  ∀ H', KB O.q H H' → O.Log (Mir.bsr pt O.ans xs x xs.length 0 xs.length l).2 H' → Q (.int ((Mir.bsr pt O.ans xs x xs.length 0 xs.length l).1 : Nat)) H'
end
end Ord

namespace Ord
open PySem PySem.Spec PyProof.Rows L2 LamX
section
variable {P : Program} {w : World} {K : PySem.W.Frag} {mg : Str → Option Value} {base : Heap}
def N_upper : List Str := ["row", "key", "order", "low", "high", "half"]
theorem sc_upper : FnScope ["row", "key", "order", "low", "high", "half"] ["row", "key", "order"] (defScope st_upper) := ⟨rfl, rfl, rfl, by decide +kernel, rfl, by decide +kernel, by decide +kernel⟩
theorem ok_upper (d_upper : Df K mg "upper" st_upper ["row", "key", "order"]) (mLen : mg "len" = none) : FnOk P w K mg base CX0 4 d_upper.f d_upper.fd ["row", "key", "order"] (spLower P w K mg base (fun i => decide (i ≤ 0))) := by
  refine d_upper.F.ok sc_upper (fun vs H Q E h => ?_) (fun cdv A outer s H vs Q E hr h => ?_)
  · obtain ⟨O, a, xs, x, l, rfl, _⟩ := h
    rfl
  · obtain ⟨O, a, xs, x, l, rfl, hR, hL, dx, dk, hz, hc, k⟩ := h
    have nd := sc_upper.nd
    refine ⟨_, (pss_cons (ps_set (i := 3) nd rfl (Or.inl rfl) pe_int)
  (pss_cons (ps_set (i := 4) nd rfl (Or.inl rfl) (pe_len mLen (pv 0)))
  (pss_cons (ps_while PassesOwn.never (pt_cmpR op_lt (pv 3) (pv 4) (nomark _))
    (pss_cons (ps_set (i := 5) nd rfl (Or.inl rfl) (pe_op op_fdivE (pe_op op_addE (pv 3) (pv 4)) pe_int))
  (pss_one (ps_if (pt_cmpR op_le (pe_callV O.run (hr.mono (by omega)) (pa_cons (pe_ix ix_list (pv 0) (pv 5) (fun _ _ => rfl)) (pa_cons (pv 1) pa_nil)) (i := 2)) pe_int (nomark _))
    (pss_one (ps_set (i := 3) nd rfl (Or.inl rfl) (pe_op op_addE (pv 5) pe_int)))
    (pss_one (ps_set (i := 4) nd rfl (Or.inl rfl) (pv 5)))))))
  (pss_one (ps_ret (pv 3)))))), ?_⟩
    obtain ⟨pt, ept⟩ : ∃ pt : Int → Bool, pt = fun i => decide (i ≤ 0) := ⟨_, rfl⟩
    rw [← ept] at k
    refine ⟨_, rfl, a, xs, rfl, .inl hR.1, ?_⟩
    refine ⟨fun m σ H' => ∃ (low high : Nat) (v : Option V) (l' : Lg), σ = [some (.ref a), some x, some (.ref O.f), some (.int low), some (.int high), v] ∧ m = high - low ∧ low ≤ high ∧ high ≤ xs.length ∧ KB O.q H H' ∧ O.Log l' H' ∧ l'.length + m ≤ l.length + xs.length ∧
      ∃ f, high - low ≤ f ∧ Mir.bsr pt O.ans xs x xs.length 0 xs.length l = Mir.bsr pt O.ans xs x f low high l', ⟨_, 0, xs.length, none, l, rfl, rfl, Nat.zero_le _, Nat.le_refl _, KB.refl _ _, hL, by omega, xs.length, by omega, rfl⟩, ?_⟩
    rintro m σ H' ⟨low, high, v, l', rfl, rfl, h1, h2, kb, hL', hl, f, hf, e⟩
    refine ⟨_, rfl, _, rfl, _, _, rfl, rfl, _, rfl, ?_⟩
    refine iteD (fun hlt => ?_) (fun hlt => ?_)
    · have hlt' : low < high := by omega
      obtain ⟨f', ef⟩ : ∃ f', f = f' + 1 := ⟨f - 1, by omega⟩
      obtain ⟨y, ey⟩ : ∃ y, xs[(low + high) / 2]? = some y := ⟨_, List.getElem?_eq_getElem (by omega)⟩
      rw [ef, Mir.bsr_step pt O.ans l' hlt' ey] at e
      refine ⟨_, fun _ _ h => h, ?_⟩
      have hR' := hR.kb kb
      refine ⟨_, rfl, _, rfl, _, _, _, rfl, rfl, rfl, _, _, (((low + high) / 2 : Nat) : Int), rfl, rfl, ⟨by decide, by decide⟩, by show (((low + high) / 2 : Nat) : Int) = ((low : Int) + (high : Int)) / 2; omega, ?_⟩
      refine ⟨rfl, O.isf hL', _, rfl, _, rfl, a, xs, _, y, rfl, rfl, hR'.1, atI_nat ey, _, rfl, O.isf hL', y, x, l', rfl, hL', by omega, (dx.tk kb.tk).get ey, O.dom kb.tk dk, fun H1 kb1 hL1 => ?_⟩
      refine ⟨_, _, rfl, rfl, _, rfl, ?_⟩
      have ept1 : pt (O.ans l' y x) = decide (O.ans l' y x ≤ 0) := by rw [ept]
      rw [ept1] at e
      refine iteD (fun hq => ?_) (fun hq => ?_)
      · rw [if_pos (decide_eq_true hq)] at e
        refine ⟨_, rfl, _, _, ((((low + high) / 2 + 1 : Nat)) : Int), rfl, rfl, rfl, ?_⟩
        exact ⟨_, by omega, _, high, _, _, rfl, rfl, by omega, h2, kb.trans kb1, hL1, by rw [List.length_append, List.length_singleton]; omega, f', by omega, e⟩
      · rw [if_neg (by rw [decide_eq_false hq]; exact Bool.false_ne_true)] at e
        refine ⟨_, rfl, ?_⟩
        exact ⟨_, by omega, low, _, _, _, rfl, rfl, by omega, by omega, kb.trans kb1, hL1, by rw [List.length_append, List.length_singleton]; omega, f', by omega, e⟩
    · rw [Mir.bsr_done pt O.ans xs x f l' (by omega)] at e
      rw [e] at k
      exact ⟨_, rfl, k H' kb hL'⟩
end
end Ord

set_option pp.deepTerms false
set_option pp.maxSteps 1500
namespace Ord
open PySem PySem.Spec PyProof.Rows L2 LamX
section
variable {P : Program} {w : World} {K : PySem.W.Frag} {mg : Str → Option Value} {base : Heap}
/-! ### least -/
def spLeast (P : Program) (w : World) (K : PySem.W.Frag) (mg : Str → Option Value) (base : Heap) : Sp := fun vs H Q _ => ∃ (O : Orc P w K mg base) (a : Addr) (x : V) (r : List V) (l : Lg), vs = [.ref a, .ref O.f] ∧
  Row K O.q H a (x :: r) ∧ O.Log l H ∧ O.All (x :: r) H ∧ Dat K (x :: r) H ∧ r.length ≤ 1000 ∧ l.length + r.length ≤ 90000 ∧
  ∀ H', KB O.q H H' → O.Log (Mir.lea O.ans x r l).2 H' → Q (Mir.lea O.ans x r l).1 H'
def N_least : List Str := ["row", "order", "found", "element"]
theorem sc_least : FnScope ["row", "order", "found", "element"] ["row", "order"] (defScope st_least) := ⟨rfl, rfl, rfl, by decide +kernel, rfl, by decide +kernel, by decide +kernel⟩
theorem ok_least (d_least : Df K mg "least" st_least ["row", "order"]) : FnOk P w K mg base CX0 4 d_least.f d_least.fd ["row", "order"] (spLeast P w K mg base) := by
  refine d_least.F.ok sc_least (fun vs H Q E h => ?_) (fun cdv A outer s H vs Q E hr h => ?_)
  · obtain ⟨O, a, x, r, l, rfl, _⟩ := h
    rfl
  · obtain ⟨O, a, x, r, l, rfl, hR, hL, dx, hD, hz, hc, k⟩ := h
    have nd := sc_least.nd
    refine ⟨_, (pss_cons (ps_if (pt_cmpR (op_eqD hr.units) (pv 0) (pe_lst pa_nil) (nomark _))
    (pss_one ps_dead)
    pss_nil)
  (pss_cons (ps_set (i := 2) nd rfl (Or.inl rfl) (pe_ix ix_list (pv 0) pe_int (fun _ _ => rfl)))
  (pss_cons (ps_for PassesOwn.never rfl (pi_list (pe_slice sl_list (pv 0) (po_some pe_int) po_none)) (pg_name (i := 3) nd rfl (Or.inl rfl))
    (pss_one (ps_if (pt_cmpR op_gt (pe_callV O.run (hr.mono (by decide)) (pa_cons (pv 2) (pa_cons (pv 3) pa_nil)) (i := 1)) pe_int (nomark _))
    (pss_one (ps_set (i := 2) nd rfl (Or.inl rfl) (pv 3)))
    pss_nil)))
  (pss_one (ps_ret (pv 2)))))), ?_⟩
    refine ⟨_, rfl, Nat.zero_le _, fun p0 n0 => ?_⟩
    have s0 := Same.new (o := .lst []) n0
    have kb0 : KB O.q H (upd H p0 (.lst [])) := KB.new n0
    have hL0 := Orc.new (o := .lst []) hL n0
    obtain ⟨ds, hds, hsh⟩ := hD _ (Same.tk s0)
    refine ⟨_, _, .lst (hR.kb kb0).1 hds, .lst (SqL.of upd_same) .nil, hsh, shaped_nil, _, rfl, ?_⟩
    have e0 : PyData.eqv (.list ds) (.list []) = false := by
      cases hds
      exact eqv_cons_nil _ _
    rw [e0]
    refine iteF ?_
    have cy : cutV (x :: r) (some (1 : Int)) none = (x :: r).drop 1 := cut_from1 (x :: r) 1
    refine ⟨_, rfl, a, x :: r, _, x, rfl, rfl, (hR.kb kb0).1, atI_nat (j := 0) rfl, ?_⟩
    refine ⟨_, rfl, _, rfl, a, x :: r, rfl, (hR.kb kb0).1, fun p2 n2 => ?_⟩
    rw [cy]
    have n2' : H p2 = none := upd_none n2
    have p2q : p2 ≠ O.q := Orc.nq hL n2'
    refine ⟨p2, rfl, ⟨_, SqL.of upd_same⟩, ?_⟩
    refine for_list (K := K) (a := p2) (xs := r) (fun i σ H' => ∃ (z : V) (v : Option V) (l' : Lg), σ = [some (.ref a), some (.ref O.f), some z, v] ∧ KB O.q H H' ∧ H' p2 = some (.lst r) ∧ O.Log l' H' ∧ l'.length = l.length + i ∧ z ∈ x :: r ∧ Mir.lea O.ans x r l = Mir.lea O.ans z (r.drop i) l')
      ⟨x, none, l, rfl, kb0.trans (KB.new n2), upd_same, Orc.new hL0 n2, rfl, List.mem_cons_self, rfl⟩ (fun i σ H' _ ⟨_, _, _, _, _, h2, _⟩ => SqL.of h2) ?_ ?_
    · rintro i y σ H1 hi ⟨z, v, l', rfl, kb, hp2, hL', hl, hzm, e⟩
      have hil : i < r.length := (List.getElem?_eq_some_iff.mp hi).1
      have hym : y ∈ x :: r := List.mem_cons_of_mem _ (List.mem_of_getElem? hi)
      rw [Mir.drop_cons hi, show Mir.lea O.ans z (y :: r.drop (i + 1)) l' = Mir.lea O.ans (Mir.leS O.ans (z, l') y).1 (r.drop (i + 1)) (Mir.leS O.ans (z, l') y).2 from rfl] at e
      refine ⟨rfl, O.isf hL', _, rfl, _, rfl, O.isf hL', z, y, l', rfl, hL', by omega, (dx.tk kb.tk) z hzm, (dx.tk kb.tk) y hym, fun H2 kb1 hL1 => ?_⟩
      have hp21 := kb1.keep _ _ p2q hp2
      have kb2 := kb.trans kb1
      refine ⟨_, _, rfl, rfl, _, rfl, ?_⟩
      refine iteD (fun hc => ?_) (fun hc => ?_)
      · have e1 : Mir.leS O.ans (z, l') y = (y, l' ++ [(z, y)]) := if_pos hc
        rw [e1] at e
        refine ⟨_, rfl, ?_⟩
        exact ⟨y, _, _, rfl, kb2, hp21, hL1, by rw [List.length_append, List.length_singleton]; omega, hym, e⟩
      · have e1 : Mir.leS O.ans (z, l') y = (z, l' ++ [(z, y)]) := if_neg hc
        rw [e1] at e
        exact ⟨z, _, _, rfl, kb2, hp21, hL1, by rw [List.length_append, List.length_singleton]; omega, hzm, e⟩
    · rintro σ H1 ⟨z, v, l', rfl, kb, hp2, hL', hl, hzm, e⟩
      rw [List.drop_length] at e
      have e2 : Mir.lea O.ans x r l = (z, l') := e
      refine ⟨_, rfl, ?_⟩
      have h := k H1 kb
      rw [e2] at h
      exact h hL'
/-! ### paired -/
def spPaired (P : Program) (w : World) (K : PySem.W.Frag) (mg : Str → Option Value) (base : Heap) : Sp := fun vs H Q _ => ∃ (O : Orc P w K mg base) (x y : V) (l : Lg), vs = [x, y, .ref O.f] ∧
  O.Log l H ∧ O.Dom x H ∧ O.Dom y H ∧ l.length ≤ 90000 ∧
  ∀ H' t, KB O.q H H' → H t = none → H' t = some (.tup (if 0 < O.ans l x y then [y, x] else [x, y])) → O.Log (l ++ [(x, y)]) H' → Q (.ref t) H'
def N_paired : List Str := ["one", "other", "order"]
theorem sc_paired : FnScope ["one", "other", "order"] ["one", "other", "order"] (defScope st_paired) := ⟨rfl, rfl, rfl, by decide +kernel, rfl, by decide +kernel, by decide +kernel⟩
theorem ok_paired (d_paired : Df K mg "paired" st_paired ["one", "other", "order"]) : FnOk P w K mg base CX0 4 d_paired.f d_paired.fd ["one", "other", "order"] (spPaired P w K mg base) := by
  refine d_paired.F.ok sc_paired (fun vs H Q E h => ?_) (fun cdv A outer s H vs Q E hr h => ?_)
  · obtain ⟨O, x, y, l, rfl, _⟩ := h
    rfl
  · obtain ⟨O, x, y, l, rfl, hL, dx, dy, hc, k⟩ := h
    have nd := sc_paired.nd
    refine ⟨_, (pss_cons (ps_if (pt_cmpR op_gt (pe_callV O.run (hr.mono (by decide)) (pa_cons (pv 0) (pa_cons (pv 1) pa_nil)) (i := 2)) pe_int (nomark _))
    (pss_one (ps_ret (pe_tup (pa_cons (pv 1) (pa_cons (pv 0) pa_nil)))))
    pss_nil)
  (pss_one (ps_ret (pe_tup (pa_cons (pv 0) (pa_cons (pv 1) pa_nil)))))), ?_⟩
    refine ⟨rfl, O.isf hL, _, rfl, _, rfl, O.isf hL, x, y, l, rfl, hL, by omega, dx, dy, fun H1 kb1 hL1 => ?_⟩
    refine ⟨_, _, rfl, rfl, _, rfl, ?_⟩
    refine iteD (fun hc => ?_) (fun hc => ?_)
    · refine ⟨_, rfl, _, rfl, by show 2 ≤ sizeLine; decide, fun t nt => ?_⟩
      have n1 : H t = none := kb1.free (Orc.nq hL1 nt) nt
      exact k _ t (kb1.trans (KB.new nt)) n1 (by rw [upd_same, if_pos (show 0 < O.ans l x y from hc)]) (Orc.new hL1 nt)
    · refine ⟨_, rfl, _, rfl, by show 2 ≤ sizeLine; decide, fun t nt => ?_⟩
      have n1 : H t = none := kb1.free (Orc.nq hL1 nt) nt
      exact k _ t (kb1.trans (KB.new nt)) n1 (by rw [upd_same, if_neg (show ¬ 0 < O.ans l x y from hc)]) (Orc.new hL1 nt)
/-! ### nth -/
def spNth (P : Program) (w : World) (K : PySem.W.Frag) (mg : Str → Option Value) (base : Heap) : Sp := fun vs H Q _ => ∃ (O : Orc P w K mg base) (a : Addr) (xs : List V) (i : Nat) (l : Lg), vs = [.ref a, .int (i : Int), .ref O.f] ∧
  Row K O.q H a xs ∧ O.Log l H ∧ O.All xs H ∧ i < xs.length ∧ xs.length ≤ 64 ∧ l.length + xs.length * Mir.clog xs.length ≤ 90000 ∧
  ∀ H' z, KB O.q H H' → (Mir.stab O.ans xs l).1[i]? = some z → O.Log (Mir.stab O.ans xs l).2 H' → Q z H'
def N_nth : List Str := ["row", "k", "order"]
theorem sc_nth : FnScope ["row", "k", "order"] ["row", "k", "order"] (defScope st_nth) := ⟨rfl, rfl, rfl, by decide +kernel, rfl, by decide +kernel, by decide +kernel⟩
theorem ok_nth (d_nth : Df K mg "nth" st_nth ["row", "k", "order"]) (d_stable : Df K mg "stable" st_stable ["row", "order"]) (d_merged : Df K mg "merged" st_merged ["one", "other", "order"]) (mLen : mg "len" = none) (mList : mg "list" = none) : FnOk P w K mg base CX0 12 d_nth.f d_nth.fd ["row", "k", "order"] (spNth P w K mg base) := by
  have G_stable : FnOk P w K mg base CX0 11 d_stable.f d_stable.fd ["row", "order"] (spStable P w K mg base 6) := ok_stable d_stable d_merged mLen mList 6
  refine d_nth.F.ok sc_nth (fun vs H Q E h => ?_) (fun cdv A outer s H vs Q E hr h => ?_)
  · obtain ⟨O, a, xs, i, l, rfl, _⟩ := h
    rfl
  · obtain ⟨O, a, xs, i, l, rfl, hR, hL, dx, hi, hz, hc, k⟩ := h
    have nd := sc_nth.nd
    refine ⟨_, (pss_cons (ps_if (pt_not (pt_chain op_le op_lt pe_int (pv 1) (pe_len mLen (pv 0))))
    (pss_one ps_dead)
    pss_nil)
  (pss_one (ps_ret (pe_ix ix_list (pe_cd (d := d_stable) G_stable (hr.mono (by decide)) (pa_cons (pv 0) (pa_cons (pv 2) pa_nil))) (pv 1) (fun _ _ => rfl))))), ?_⟩
    refine ⟨_, rfl, _, _, rfl, rfl, _, rfl, ?_⟩
    refine iteD (fun _ => ?_) (fun h => absurd (show (0 : Int) ≤ (i : Int) by omega) h)
    refine ⟨_, rfl, a, xs, rfl, .inl hR.1, _, _, rfl, rfl, _, rfl, ?_⟩
    rw [show decide ((i : Int) < (xs.length : Int)) = true from decide_eq_true (by omega)]
    refine iteF ?_
    refine ⟨_, rfl, _, rfl, O, a, xs, l, rfl, hR, hL, dx, hz, by omega, hc, fun H1 p kb np hp hL1 => ?_⟩
    obtain ⟨z, ez⟩ : ∃ z, (Mir.stab O.ans xs l).1[i]? = some z := ⟨_, List.getElem?_eq_getElem (by rw [Mir.stab_len O.ans _ xs l (Nat.le_refl _)]; exact hi)⟩
    refine ⟨_, rfl, p, _, _, z, rfl, rfl, SqL.of hp, atI_nat ez, ?_⟩
    exact k H1 z kb ez hL1
end
end Ord

set_option pp.deepTerms false
set_option pp.maxSteps 1500
namespace Ord
open PySem PySem.Spec PyProof.Rows L2 LamX
theorem rg2 {i j : Int} {n : Nat} (ha : 0 ≤ i) (ha' : i < 1000000) (hb : 0 ≤ j) (hb' : j < 1000000) (hn : (n : Int) = (if i < j then (j - i - 1) / 2 + 1 else 0)) : RgC i j 2 n := by
  have e : Builtin.Range.rangeSize i j 2 = (n : Int) := by
    rw [hn]
    unfold Builtin.Range.rangeSize
    rw [if_pos (by decide)]
  refine ⟨by decide, by decide, ?_, e⟩
  unfold Builtin.Range.small
  rw [e]
  simp only [Builtin.Range.rangeFitsLong, Bool.and_eq_true, Bool.or_eq_true, decide_eq_true_eq, beq_iff_eq, show (2 : Int) > 0 by decide, if_true]
  split at hn <;> omega
section
variable {P : Program} {w : World} {K : PySem.W.Frag} {mg : Str → Option Value} {base : Heap}
/-! ### ends -/
/-- lo and hi are the ends of a row, by every key that the order goes by -/
def EndsOf (O : Orc P w K mg base) (xs : List V) (lo hi : V) : Prop := ∀ key, Mir.KeyA O.ans key → ∀ y ∈ xs, key lo ≤ key y ∧ key y ≤ key hi
def spEnds (P : Program) (w : World) (K : PySem.W.Frag) (mg : Str → Option Value) (base : Heap) : Sp := fun vs H Q _ => ∃ (O : Orc P w K mg base) (a : Addr) (xs : List V) (l : Lg), vs = [.ref a, .ref O.f] ∧
  Row K O.q H a xs ∧ O.Log l H ∧ O.All xs H ∧ Dat K xs H ∧ xs ≠ [] ∧ xs.length ≤ 1000 ∧ l.length + 3 * xs.length ≤ 90000 ∧
  ∀ H' t lo hi l', KB O.q H H' → H t = none → H' t = some (.tup [lo, hi]) → O.Log l' H' → lo ∈ xs → hi ∈ xs → 2 * l'.length ≤ 2 * l.length + 3 * xs.length → EndsOf O xs lo hi → Q (.ref t) H'
def N_ends : List Str := ["row", "order", "low", "high", "start", "k", "small", "great"]
theorem sc_ends : FnScope ["row", "order", "low", "high", "start", "k", "small", "great"] ["row", "order"] (defScope st_ends) := ⟨rfl, rfl, rfl, by decide +kernel, rfl, by decide +kernel, by decide +kernel⟩
theorem ok_ends (d_ends : Df K mg "ends" st_ends ["row", "order"]) (d_paired : Df K mg "paired" st_paired ["one", "other", "order"]) (mLen : mg "len" = none) (mRange : mg "range" = none) : FnOk P w K mg base CX0 5 d_ends.f d_ends.fd ["row", "order"] (spEnds P w K mg base) := by
  have G_paired : FnOk P w K mg base CX0 4 d_paired.f d_paired.fd ["one", "other", "order"] (spPaired P w K mg base) := ok_paired d_paired
  refine d_ends.F.ok sc_ends (fun vs H Q E h => ?_) (fun cdv A outer s H vs Q E hr h => ?_)
  · obtain ⟨O, a, xs, l, rfl, _⟩ := h
    rfl
  · obtain ⟨O, a, xs, l, rfl, hR, hL, dx, hD, hne, hz, hc, k⟩ := h
    have nd := sc_ends.nd
    refine ⟨_, (pss_cons (ps_if (pt_cmpR (op_eqD hr.units) (pv 0) (pe_lst pa_nil) (nomark _))
    (pss_one ps_dead)
    pss_nil)
  (pss_cons (ps_set (i := 2) nd rfl (Or.inl rfl) (pe_ix ix_list (pv 0) pe_int (fun _ _ => rfl)))
  (pss_cons (ps_set (i := 3) nd rfl (Or.inl rfl) (pe_ix ix_list (pv 0) pe_int (fun _ _ => rfl)))
  (pss_cons (ps_set (i := 4) nd rfl (Or.inl rfl) pe_int)
  (C8.pss_cut (ps_if (pt_cmpR op_eq (pe_op op_modE (pe_len mLen (pv 0)) pe_int) pe_int (nomark _))
    (pss_cons (ps_asg (pe_cd (d := d_paired) G_paired (hr.mono (by decide)) (pa_cons (pe_ix ix_list (pv 0) pe_int (fun _ _ => rfl)) (pa_cons (pe_ix ix_list (pv 0) pe_int (fun _ _ => rfl)) (pa_cons (pv 1) pa_nil)))) (pg_tup (by rfl) (pgs_cons (pg_name (i := 2) nd rfl (Or.inl rfl)) (pgs_cons (pg_name (i := 3) nd rfl (Or.inl rfl)) pgs_nil))))
  (pss_one (ps_set (i := 4) nd rfl (Or.inl rfl) pe_int)))
    pss_nil)
  (pss_cons (ps_for PassesOwn.never rfl (pi_range3 rfl mRange (pa_cons (pv 4) (pa_cons (pe_len mLen (pv 0)) (pa_cons pe_int pa_nil)))) (pg_name (i := 5) nd rfl (Or.inl rfl))
    (pss_cons (ps_asg (pe_cd (d := d_paired) G_paired (hr.mono (by decide)) (pa_cons (pe_ix ix_list (pv 0) (pv 5) (fun _ _ => rfl)) (pa_cons (pe_ix ix_list (pv 0) (pe_op op_addE (pv 5) pe_int) (fun _ _ => rfl)) (pa_cons (pv 1) pa_nil)))) (pg_tup (by rfl) (pgs_cons (pg_name (i := 6) nd rfl (Or.inl rfl)) (pgs_cons (pg_name (i := 7) nd rfl (Or.inl rfl)) pgs_nil))))
  (C8.pss_cut (ps_if (pt_cmpR op_gt (pe_callV O.run (hr.mono (by decide)) (pa_cons (pv 2) (pa_cons (pv 6) pa_nil)) (i := 1)) pe_int (nomark _))
    (pss_one (ps_set (i := 2) nd rfl (Or.inl rfl) (pv 6)))
    pss_nil)
  (pss_one (ps_if (pt_cmpR op_lt (pe_callV O.run (hr.mono (by decide)) (pa_cons (pv 3) (pa_cons (pv 7) pa_nil)) (i := 1)) pe_int (nomark _))
    (pss_one (ps_set (i := 3) nd rfl (Or.inl rfl) (pv 7)))
    pss_nil)))))
  (pss_one (ps_ret (pe_tup (pa_cons (pv 2) (pa_cons (pv 3) pa_nil))))))))))), ?_⟩
    refine ⟨_, rfl, Nat.zero_le _, fun p0 n0 => ?_⟩
    have s0 := Same.new (o := .lst []) n0
    have kb0 : KB O.q H (upd H p0 (.lst [])) := KB.new n0
    have hL0 := Orc.new (o := .lst []) hL n0
    obtain ⟨ds, hds, hsh⟩ := hD _ (Same.tk s0)
    refine ⟨_, _, .lst (hR.kb kb0).1 hds, .lst (SqL.of upd_same) .nil, hsh, shaped_nil, _, rfl, ?_⟩
    have px : 0 < xs.length := List.length_pos_iff.mpr hne
    have e0 : PyData.eqv (.list ds) (.list []) = false := by
      cases hds
      · exact absurd rfl hne
      · exact eqv_cons_nil _ _
    rw [e0]
    refine iteF ?_
    obtain ⟨x, ex⟩ : ∃ x, xs[0]? = some x := ⟨_, List.getElem?_eq_getElem px⟩
    have hxm : x ∈ xs := List.mem_of_getElem? ex
    obtain ⟨H1, e1⟩ : ∃ H1, H1 = upd H p0 (.lst []) := ⟨_, rfl⟩
    rw [← e1] at kb0 hL0 ⊢
    clear e1 hds s0 e0
    have ex' : atI xs (0 : Int) = some x := atI_nat (j := 0) ex
    refine ⟨_, rfl, a, xs, _, x, rfl, rfl, (hR.kb kb0).1, ex', ?_⟩
    refine ⟨_, rfl, a, xs, _, x, rfl, rfl, (hR.kb kb0).1, ex', ?_⟩
    -- the start
    obtain ⟨Mid, eMid⟩ : ∃ Mid : L2.St → Hp → Prop, Mid = fun σ H' => ∃ (lo hi : V) (st : Nat) (l' : Lg), σ = [some (.ref a), some (.ref O.f), some lo, some hi, some (.int (st : Nat)), none, none, none] ∧ KB O.q H H' ∧ O.Log l' H' ∧ 1 ≤ st ∧ st ≤ 2 ∧ st ≤ xs.length ∧ (xs.length - st) % 2 = 0 ∧ lo ∈ xs ∧ hi ∈ xs ∧ l'.length = l.length + (st - 1) ∧ EndsOf O (xs.take st) lo hi := ⟨_, rfl⟩
    refine ⟨Mid, ?_, fun σ' H2 hM => ?_⟩
    · refine ⟨_, rfl, a, xs, rfl, .inl (hR.kb kb0).1, _, _, ((xs.length % 2 : Nat) : Int), rfl, rfl, (by show (0 : Int) < 2; decide), (by show ((xs.length % 2 : Nat) : Int) = (xs.length : Int) % 2; omega), rfl, _, rfl, ?_⟩
      refine iteI (fun hev => ?_) (fun hev => ?_)
      · obtain ⟨y, ey⟩ : ∃ y, xs[1]? = some y := ⟨_, List.getElem?_eq_getElem (by omega)⟩
        have hym : y ∈ xs := List.mem_of_getElem? ey
        have ey' : atI xs (1 : Int) = some y := atI_nat (j := 1) ey
        refine ⟨_, rfl, a, xs, _, x, rfl, rfl, (hR.kb kb0).1, ex', _, rfl, a, xs, _, y, rfl, rfl, (hR.kb kb0).1, ey', _, rfl, ?_⟩
        refine ⟨O, x, y, l, rfl, hL0, (dx.tk kb0.tk) x hxm, (dx.tk kb0.tk) y hym, by omega, fun H2 t kb1 nt ht hL1 => ?_⟩
        have et : xs.take 2 = [x, y] := by
          match xs, ex, ey with
          | a :: b :: r, ex, ey =>
            simp at ex ey
            rw [ex, ey]
            rfl
        by_cases hc : 0 < O.ans l x y
        · rw [if_pos hc] at ht
          refine ⟨t, _, rfl, SqT.of ht, rfl, _, _, rfl, _, _, rfl, rfl, ?_⟩
          rw [eMid]
          refine ⟨y, x, 2, _, rfl, kb0.trans kb1, hL1, by omega, by omega, by omega, by omega, hym, hxm, by simp, fun key A z hz => ?_⟩
          have h := (A.pos l x y).mp hc
          rw [et] at hz
          simp at hz
          rcases hz with q | q <;> rw [q] <;> omega
        · rw [if_neg hc] at ht
          refine ⟨t, _, rfl, SqT.of ht, rfl, _, _, rfl, _, _, rfl, rfl, ?_⟩
          rw [eMid]
          refine ⟨x, y, 2, _, rfl, kb0.trans kb1, hL1, by omega, by omega, by omega, by omega, hxm, hym, by simp, fun key A z hz => ?_⟩
          have h : ¬ key y < key x := fun q => hc ((A.pos l x y).mpr q)
          rw [et] at hz
          simp at hz
          rcases hz with q | q <;> rw [q] <;> omega
      · rw [eMid]
        refine ⟨x, x, 1, l, rfl, kb0, hL0, by omega, by omega, by omega, by omega, hxm, hxm, by simp, fun key A z hz => ?_⟩
        have et : xs.take 1 = [x] := by
          match xs, ex with
          | a :: r, ex =>
            simp at ex
            rw [ex]
            rfl
        rw [et] at hz
        rw [List.mem_singleton.mp hz]
        exact ⟨Int.le_refl _, Int.le_refl _⟩
    rw [eMid] at hM
    obtain ⟨lo, hi, st, l1, rfl, kbA, hLA, hst1, hst2, hst3, hev, hlo, hhi, hl1, hE⟩ := hM
    clear eMid Mid kb0 hL0 hD
    -- the pairs
    refine ⟨_, rfl, _, rfl, a, xs, rfl, .inl (hR.kb kbA).1, (st : Int), (xs.length : Int), 2, (xs.length - st) / 2, rfl, rg2 (by omega) (by omega) (by omega) (by omega) (by split <;> omega), ?_⟩
    refine for_rangeC (lo := (st : Int)) (c := 2) (n := (xs.length - st) / 2) (fun i σ H' => ∃ (lo hi : V) (v5 v6 v7 : Option V) (l' : Lg), σ = [some (.ref a), some (.ref O.f), some lo, some hi, some (.int (st : Nat)), v5, v6, v7] ∧ KB O.q H H' ∧ O.Log l' H' ∧ lo ∈ xs ∧ hi ∈ xs ∧ l'.length = l.length + (st - 1) + 3 * i ∧ EndsOf O (xs.take (st + 2 * i)) lo hi)
      ⟨lo, hi, none, none, none, l1, rfl, kbA, hLA, hlo, hhi, by omega, hE⟩ ?_ ?_
    · rintro i σ H3 hi3 ⟨lo, hi, v5, v6, v7, l', rfl, kb, hL', hlo, hhi, hl', hE⟩
      rw [show ((st : Int) + (i : Nat) * 2) = ((st + 2 * i : Nat) : Int) by omega]
      obtain ⟨kk, ekk⟩ : ∃ kk, kk = st + 2 * i := ⟨_, rfl⟩
      rw [← ekk] at hE ⊢
      have hk1 : kk + 1 < xs.length := by omega
      obtain ⟨y, ey⟩ : ∃ y, xs[kk]? = some y := ⟨_, List.getElem?_eq_getElem (by omega)⟩
      obtain ⟨z, ez⟩ : ∃ z, xs[kk + 1]? = some z := ⟨_, List.getElem?_eq_getElem hk1⟩
      have hym : y ∈ xs := List.mem_of_getElem? ey
      have hzm : z ∈ xs := List.mem_of_getElem? ez
      have et : xs.take (st + 2 * (i + 1)) = xs.take kk ++ [y, z] := by
        rw [show st + 2 * (i + 1) = kk + 1 + 1 by omega, List.take_add_one, List.take_add_one, ey, ez]
        simp
      have hSq := (hR.kb kb).1
      refine ⟨_, rfl, _, rfl, a, xs, _, y, rfl, rfl, hSq, atI_nat ey, _, rfl, _, rfl, _, _, ((kk + 1 : Nat) : Int), rfl, rfl, (by show ((kk + 1 : Nat) : Int) = (kk : Int) + 1; omega), a, xs, _, z, rfl, rfl, hSq, atI_nat ez, _, rfl, ?_⟩
      refine ⟨O, y, z, l', rfl, hL', (dx.tk kb.tk) y hym, (dx.tk kb.tk) z hzm, by omega, fun H4 t kb1 nt ht hL1 => ?_⟩
      obtain ⟨sm, gr, hsg, hsm, hgr, hord⟩ : ∃ sm gr, H4 t = some (.tup [sm, gr]) ∧ sm ∈ xs ∧ gr ∈ xs ∧ ∀ key, Mir.KeyA O.ans key → key sm ≤ key y ∧ key sm ≤ key z ∧ key y ≤ key gr ∧ key z ≤ key gr := by
        by_cases hc : 0 < O.ans l' y z
        · rw [if_pos hc] at ht
          refine ⟨z, y, ht, hzm, hym, fun key A => ?_⟩
          have h := (A.pos l' y z).mp hc
          omega
        · rw [if_neg hc] at ht
          refine ⟨y, z, ht, hym, hzm, fun key A => ?_⟩
          have h : ¬ key z < key y := fun q => hc ((A.pos l' y z).mpr q)
          omega
      refine ⟨t, _, rfl, SqT.of hsg, rfl, _, _, rfl, _, _, rfl, rfl, ?_⟩
      have kb2 := kb.trans kb1
      -- low
      obtain ⟨Mid, eMid⟩ : ∃ Mid : L2.St → Hp → Prop, Mid = fun σ H' => ∃ (lo2 : V) (l2 : Lg), σ = [some (.ref a), some (.ref O.f), some lo2, some hi, some (.int (st : Nat)), some (.int (kk : Nat)), some sm, some gr] ∧ KB O.q H H' ∧ O.Log l2 H' ∧ lo2 ∈ xs ∧ l2.length = l'.length + 2 ∧ ∀ key, Mir.KeyA O.ans key → key lo2 ≤ key lo ∧ key lo2 ≤ key sm := ⟨_, rfl⟩
      have ll1 : (l' ++ [(y, z)]).length = l'.length + 1 := by simp
      refine ⟨Mid, ?_, fun σ' H5 hM => ?_⟩
      · refine ⟨rfl, O.isf hL1, _, rfl, _, rfl, O.isf hL1, lo, sm, _, rfl, hL1, by omega, (dx.tk kb2.tk) lo hlo, (dx.tk kb2.tk) sm hsm, fun H5 kb3 hL2 => ?_⟩
        have kb4 := kb2.trans kb3
        refine ⟨_, _, rfl, rfl, _, rfl, ?_⟩
        refine iteD (fun hc => ?_) (fun hc => ?_)
        · refine ⟨_, rfl, ?_⟩
          rw [eMid]
          refine ⟨sm, _, rfl, kb4, hL2, hsm, by simp, fun key A => ?_⟩
          have h := (A.pos (l' ++ [(y, z)]) lo sm).mp hc
          omega
        · rw [eMid]
          refine ⟨lo, _, rfl, kb4, hL2, hlo, by simp, fun key A => ?_⟩
          have h : ¬ key sm < key lo := fun q => hc ((A.pos (l' ++ [(y, z)]) lo sm).mpr q)
          omega
      rw [eMid] at hM
      obtain ⟨lo2, l2, rfl, kb4, hL2, hlo2, hl2, hk2⟩ := hM
      clear eMid Mid
      -- high
      have fin : ∀ (hi2 : V) (H6 : Hp), hi2 ∈ xs → KB O.q H H6 → O.Log (l2 ++ [(hi, gr)]) H6 → (∀ key, Mir.KeyA O.ans key → key hi ≤ key hi2 ∧ key gr ≤ key hi2) → ∃ (lo hi : V) (v5 v6 v7 : Option V) (l' : Lg), [some (V.ref a), some (.ref O.f), some lo2, some hi2, some (.int (st : Nat)), some (.int (kk : Nat)), some sm, some gr] = [some (.ref a), some (.ref O.f), some lo, some hi, some (.int (st : Nat)), v5, v6, v7] ∧ KB O.q H H6 ∧ O.Log l' H6 ∧ lo ∈ xs ∧ hi ∈ xs ∧ l'.length = l.length + (st - 1) + 3 * (i + 1) ∧ EndsOf O (xs.take (st + 2 * (i + 1))) lo hi := fun hi2 H6 hm kb6 hL6 hk => by
        refine ⟨lo2, hi2, _, _, _, _, rfl, kb6, hL6, hlo2, hm, by rw [List.length_append, List.length_singleton]; omega, fun key A u hu => ?_⟩
        rw [et] at hu
        have a1 := hk2 key A
        have a2 := hk key A
        have a3 := hord key A
        rcases List.mem_append.mp hu with q | q
        · have := hE key A u q
          omega
        · simp at q
          rcases q with q | q <;> rw [q] <;> omega
      refine ⟨rfl, O.isf hL2, _, rfl, _, rfl, O.isf hL2, hi, gr, _, rfl, hL2, by omega, (dx.tk kb4.tk) hi hhi, (dx.tk kb4.tk) gr hgr, fun H6 kb5 hL3 => ?_⟩
      have kb6 := kb4.trans kb5
      refine ⟨_, _, rfl, rfl, _, rfl, ?_⟩
      refine iteD (fun hc => ?_) (fun hc => ?_)
      · refine ⟨_, rfl, ?_⟩
        refine fin gr H6 hgr kb6 hL3 fun key A => ?_
        have h := (A.neg l2 hi gr).mp hc
        omega
      · refine fin hi H6 hhi kb6 hL3 fun key A => ?_
        have h : ¬ key hi < key gr := fun q => hc ((A.neg l2 hi gr).mpr q)
        omega
    · rintro σ H3 ⟨lo, hi, v5, v6, v7, l', rfl, kb, hL', hlo, hhi, hl', hE⟩
      rw [show st + 2 * ((xs.length - st) / 2) = xs.length by omega, List.take_length] at hE
      refine ⟨_, rfl, _, rfl, by show 2 ≤ sizeLine; decide, fun t nt => ?_⟩
      exact k _ t lo hi l' (kb.trans (KB.new nt)) (kb.free (Orc.nq hL' nt) nt) upd_same (Orc.new hL' nt) hlo hhi (by omega) hE
end
end Ord

set_option pp.deepTerms false
set_option pp.maxSteps 1500
namespace Ord
open PySem PySem.Spec PyProof.Rows L2 LamX
/-- a test, what it leaves named -/
def tCutT (t : TT) : TT := fun σ H Q => ∃ Pc : Bool → Hp → Prop, t σ H Pc ∧ ∀ c H1, Pc c H1 → Q c H1
theorem pt_cut {X : Cx} {e : Expr} {t : TT} (h : PT X e t) : PT X e (tCutT t) := ⟨fun pins s σ H Q I hh => by
  obtain ⟨Pc, h1, h2⟩ := hh
  exact thn (h.run pins s σ H Pc I h1) fun c s1 ⟨H1, I1, q⟩ => ⟨H1, I1, h2 _ _ q⟩⟩
section
variable {P : Program} {w : World} {K : PySem.W.Frag} {mg : Str → Option Value} {base : Heap}
/-! ### best -/
def spBest (P : Program) (w : World) (K : PySem.W.Frag) (mg : Str → Option Value) (base : Heap) : Sp := fun vs H Q _ => ∃ (O : Orc P w K mg base) (a : Addr) (xs : List V) (many : Nat) (l : Lg), vs = [.ref a, .int (many : Int), .ref O.f] ∧
  Row K O.q H a xs ∧ O.Log l H ∧ O.All xs H ∧ xs.length ≤ 900 ∧ many ≤ 900 ∧ l.length + xs.length * (Mir.clog (many + 1) + 1) ≤ 80000 ∧
  ∀ H' p zs l', KB O.q H H' → H p = none → H' p = some (.lst zs) → O.Log l' H' → l'.length ≤ l.length + xs.length * (Mir.clog (many + 1) + 1) → (many = 0 → l' = l) → (∀ z ∈ zs, z ∈ xs) → zs.length = min xs.length many → (∃ r, (zs ++ r).Perm xs) →
    (∀ key, Mir.KeyA O.ans key → zs = (Mir.isort key xs).take many) → Q (.ref p) H'
def N_best : List Str := ["row", "many", "order", "found", "element", "place"]
theorem sc_best : FnScope ["row", "many", "order", "found", "element", "place"] ["row", "many", "order"] (defScope st_best) := ⟨rfl, rfl, rfl, by decide +kernel, rfl, by decide +kernel, by decide +kernel⟩
theorem ok_best (d_best : Df K mg "best" st_best ["row", "many", "order"]) (d_upper : Df K mg "upper" st_upper ["row", "key", "order"]) (mLen : mg "len" = none) : FnOk P w K mg base CX0 5 d_best.f d_best.fd ["row", "many", "order"] (spBest P w K mg base) := by
  have G_upper : FnOk P w K mg base CX0 4 d_upper.f d_upper.fd ["row", "key", "order"] (spLower P w K mg base (fun i => decide (i ≤ 0))) := ok_upper d_upper mLen
  refine d_best.F.ok sc_best (fun vs H Q E h => ?_) (fun cdv A outer s H vs Q E hr h => ?_)
  · obtain ⟨O, a, xs, many, l, rfl, _⟩ := h
    rfl
  · obtain ⟨O, a, xs, many, l, rfl, hR, hL, dx, hz, hmz, hc, k⟩ := h
    have nd := sc_best.nd
    refine ⟨_, (pss_cons (ps_set (i := 3) nd rfl (Or.inl rfl) (pe_lst pa_nil))
  (pss_cons (ps_for PassesOwn.never rfl (pi_list (pv 0)) (pg_name (i := 4) nd rfl (Or.inl rfl))
    (pss_one (ps_if (pt_cut (PW.pt (pw_or (pt_cmpR op_lt (pe_len mLen (pv 3)) (pv 1) (nomark _)) (pw_or1 (PW.pt (pw_and (pt_cmpR op_gt (pv 1) pe_int (nomark _)) (pw_and1 (pt_cmpR op_gt (pe_callV O.run (hr.mono (by decide)) (pa_cons (pe_ix ix_list (pv 3) (pe_un un_neg pe_int) (fun _ _ => rfl)) (pa_cons (pv 4) pa_nil)) (i := 2)) pe_int (nomark _)))))))))
    (pss_cons (ps_set (i := 5) nd rfl (Or.inl rfl) (pe_cd (d := d_upper) G_upper (hr.mono (by decide)) (pa_cons (pv 3) (pa_cons (pv 4) (pa_cons (pv 2) pa_nil)))))
  (pss_cons (ps_set (i := 3) nd rfl (Or.inl rfl) (pe_op op_cat (pe_op op_cat (pe_slice sl_list (pv 3) po_none (po_some (pv 5))) (pe_lst (pa_cons (pv 4) pa_nil))) (pe_slice sl_list (pv 3) (po_some (pv 5)) po_none)))
  (pss_one (ps_set (i := 3) nd rfl (Or.inl rfl) (pe_slice sl_list (pv 3) po_none (po_some (pv 1)))))))
    pss_nil)))
  (pss_one (ps_ret (pv 3))))), ?_⟩
    obtain ⟨D, eD⟩ : ∃ D, D = Mir.clog (many + 1) + 1 := ⟨_, rfl⟩
    rw [← eD] at hc k
    refine ⟨Nat.zero_le _, fun p0 n0 => ?_⟩
    have kb0 : KB O.q H (upd H p0 (.lst [])) := KB.new n0
    have hL0 := Orc.new (o := .lst []) hL n0
    refine ⟨_, rfl, a, rfl, ⟨_, (hR.kb kb0).1⟩, ?_⟩
    refine for_list (K := K) (a := a) (xs := xs) (fun i σ H' => ∃ (p : Addr) (v4 v5 : Option V) (s : List V) (l' : Lg), σ = [some (.ref a), some (.int (many : Nat)), some (.ref O.f), some (.ref p), v4, v5] ∧ KB O.q H H' ∧ H p = none ∧ H' p = some (.lst s) ∧ O.Log l' H' ∧ l'.length ≤ l.length + i * D ∧ (many = 0 → l' = l) ∧ (∀ z ∈ s, z ∈ xs) ∧ s.length = min i many ∧ (∃ r, (s ++ r).Perm (xs.take i)) ∧ ∀ key, Mir.KeyA O.ans key → s = (Mir.isort key (xs.take i)).take many)
      ⟨p0, none, none, [], l, rfl, kb0, n0, upd_same, hL0, by omega, fun _ => rfl, (fun z hz => by cases hz), by simp, ⟨[], by simp⟩, fun key A => by simp [Mir.isort]⟩ (fun i σ H' _ ⟨_, _, _, _, _, _, kb, _⟩ => (hR.kb kb).1) ?_ ?_
    · rintro i e σ H1 hi ⟨p, v4, v5, s, l', rfl, kb, np, hp, hL', hl, hl0, hm, hs, ⟨rr, hrr⟩, hk⟩
      have hil : i < xs.length := (List.getElem?_eq_some_iff.mp hi).1
      have hem : e ∈ xs := List.mem_of_getElem? hi
      have pq : p ≠ O.q := Orc.nq hL np
      have et : xs.take (i + 1) = xs.take i ++ [e] := by rw [List.take_add_one, hi]; rfl
      have m1 : (i + 1) * D = i * D + D := Nat.succ_mul i D
      have m2 : (i + 1) * D ≤ xs.length * D := Nat.mul_le_mul_right D hil
      have lt : (xs.take i).length = i := by rw [List.length_take]; omega
      refine ⟨fun c H2 => ∃ l2 : Lg, KB O.q H H2 ∧ H2 p = some (.lst s) ∧ O.Log l2 H2 ∧ l2.length ≤ l'.length + 1 ∧ (many = 0 → l2 = l') ∧ (c = true → many ≠ 0) ∧ (c = false → many ≤ i ∧ (many ≠ 0 → ∃ z, s.getLast? = some z ∧ ∀ key, Mir.KeyA O.ans key → key z ≤ key e)), ?_, ?_⟩
      · refine ⟨_, rfl, p, s, rfl, .inl (SqL.of hp), _, rfl, _, _, rfl, rfl, _, rfl, ?_⟩
        refine iteD (fun h => ?_) (fun h => ?_)
        · have h' : (s.length : Int) < (many : Int) := h
          exact ⟨l', kb, hp, hL', by omega, fun _ => rfl, fun _ => by omega, (fun z => by cases z)⟩
        · have h' : ¬ (s.length : Int) < (many : Int) := h
          refine ⟨_, rfl, _, _, rfl, rfl, _, rfl, ?_⟩
          refine iteD (fun h2 => ?_) (fun h2 => ?_)
          · have h2' : (0 : Int) < (many : Int) := h2
            have hne' : s ≠ [] := fun z => by rw [z] at h' hs; simp at hs h'; omega
            obtain ⟨z, hz1⟩ : ∃ z, s.getLast? = some z := ⟨_, List.getLast?_eq_some_getLast hne'⟩
            have az : atI s (-1) = some z := by
              obtain ⟨r, er⟩ := List.getLast?_eq_some_iff.mp hz1
              rw [er]
              exact atI_last r z
            refine ⟨rfl, O.isf hL', _, rfl, _, rfl, p, s, _, z, rfl, rfl, SqL.of hp, az, _, rfl, O.isf hL', z, e, l', rfl, hL', by omega, (dx.tk kb.tk) z (hm z (List.mem_of_getLast? hz1)), (dx.tk kb.tk) e hem, fun H2 kb1 hL1 => ?_⟩
            refine ⟨_, _, rfl, rfl, _, rfl, ?_⟩
            refine ⟨_, kb.trans kb1, kb1.keep _ _ pq hp, hL1, by simp, fun z => by omega, fun _ => by omega, fun hc => ⟨by omega, fun _ => ⟨z, hz1, fun key A => ?_⟩⟩⟩
            have h3 : ¬ 0 < O.ans l' z e := of_decide_eq_false hc
            have h4 : ¬ key e < key z := fun q => h3 ((A.pos l' z e).mpr q)
            omega
          · have h2' : ¬ (0 : Int) < (many : Int) := h2
            exact ⟨l', kb, hp, hL', by omega, fun _ => rfl, (fun z => by cases z), fun _ => ⟨by omega, fun h => by omega⟩⟩
      · rintro c H2 ⟨l2, kb2, hp2, hL2, hl2, hl20, hct, hcf⟩
        refine iteB (fun hc => ?_) (fun hc => ?_)
        · have hm0 := hct hc
          refine ⟨_, rfl, _, rfl, _, rfl, O, p, s, e, l2, rfl, Row.of hp2 pq, hL2, fun z hz => (dx.tk kb2.tk) z (hm z hz), (dx.tk kb2.tk) e hem, by omega, by omega, fun H3 kb3 hL3 => ?_⟩
          have sp := Mir.bsr_spec (fun i => decide (i ≤ 0)) O.ans s e s.length 0 s.length l2 (Nat.zero_le _) (Nat.le_refl _) (by omega)
          have ui : ∀ key, Mir.KeyA O.ans key → s.take (Mir.bsr (fun i => decide (i ≤ 0)) O.ans s e s.length 0 s.length l2).1 ++ [e] ++ s.drop (Mir.bsr (fun i => decide (i ≤ 0)) O.ans s e s.length 0 s.length l2).1 = Mir.ins key e s := fun key A => by
            refine Mir.upper_ins A ?_ e l2
            rw [hk key A]
            exact List.Pairwise.sublist (List.take_sublist _ _) (Mir.isort_srt key _).1
          obtain ⟨b, eb⟩ : ∃ b, b = Mir.bsr (fun i => decide (i ≤ 0)) O.ans s e s.length 0 s.length l2 := ⟨_, rfl⟩
          rw [← eb] at sp ui hL3 ⊢
          have kb4 := kb2.trans kb3
          have hp3 := kb3.keep _ _ pq hp2
          have cx : cutV s none (some (b.1 : Int)) = s.take b.1 := cut_to1 s b.1
          have cy : cutV s (some (b.1 : Int)) none = s.drop b.1 := cut_from1 s b.1
          have lx : (s.take b.1).length = b.1 := by rw [List.length_take]; omega
          have ly : (s.drop b.1).length = s.length - b.1 := List.length_drop
          refine ⟨_, rfl, _, rfl, _, rfl, p, s, rfl, SqL.of hp3, fun p1 n1 => ?_⟩
          rw [cx]
          refine ⟨_, rfl, by show 1 ≤ sizeLine; decide, fun p2 n2 => ?_⟩
          refine ⟨p1, p2, s.take b.1, [e], rfl, rfl, kn n2 upd_same, upd_same, z1000 (by rw [lx]; show b.1 + 1 ≤ 1000; omega), fun p3 n3 => ?_⟩
          refine ⟨_, rfl, _, rfl, _, rfl, p, s, rfl, SqL.of (kn n3 (kn n2 (kn n1 hp3))), fun p4 n4 => ?_⟩
          rw [cy]
          refine ⟨p3, p4, s.take b.1 ++ [e], s.drop b.1, rfl, rfl, kn n4 upd_same, upd_same, z1000 (by rw [List.length_append, List.length_singleton, lx, ly]; omega), fun p5 n5 => ?_⟩
          obtain ⟨w2, ew2⟩ : ∃ w2, w2 = s.take b.1 ++ [e] ++ s.drop b.1 := ⟨_, rfl⟩
          rw [← ew2] at ui ⊢
          have lw : w2.length = s.length + 1 := by rw [ew2, List.length_append, List.length_append, List.length_singleton, lx, ly]; omega
          have mw : ∀ z ∈ w2, z ∈ xs := fun z hz => by
            rw [ew2] at hz
            rcases List.mem_append.mp hz with q | q
            · rcases List.mem_append.mp q with q | q
              · exact hm z (List.mem_of_mem_take q)
              · rw [List.mem_singleton.mp q]; exact hem
            · exact hm z (List.mem_of_mem_drop q)
          have cm : cutV w2 none (some (many : Int)) = w2.take many := cut_to1 w2 many
          refine ⟨_, rfl, _, rfl, _, rfl, p5, w2, rfl, SqL.of upd_same, fun p6 n6 => ?_⟩
          rw [cm]
          have kb5 : KB O.q H3 _ := (((((KB.new (o := .lst (s.take b.1)) n1).trans (KB.new (o := .lst [e]) n2)).trans (KB.new (o := .lst (s.take b.1 ++ [e])) n3)).trans (KB.new (o := .lst (s.drop b.1)) n4)).trans (KB.new (o := .lst w2) n5)).trans (KB.new (o := .lst (w2.take many)) n6)
          have hL5 := Orc.new (o := .lst (w2.take many)) (Orc.new (o := .lst w2) (Orc.new (o := .lst (s.drop b.1)) (Orc.new (o := .lst (s.take b.1 ++ [e])) (Orc.new (o := .lst [e]) (Orc.new (o := .lst (s.take b.1)) hL3 n1) n2) n3) n4) n5) n6
          have n6' : H3 p6 = none := upd_none (upd_none (upd_none (upd_none (upd_none n6))))
          have sp4 := sp.2.2.2.1
          have cm1 : Mir.clog (s.length + 1) ≤ Mir.clog (many + 1) := Mir.clog_mono (by omega)
          rw [Nat.sub_zero] at sp4
          have hpw : (w2.take many ++ (w2.drop many ++ rr)).Perm (xs.take (i + 1)) := by
            rw [← List.append_assoc, List.take_append_drop, et, ew2]
            have h1 : (s.take b.1 ++ [e] ++ s.drop b.1).Perm (e :: s) := by
              rw [List.append_assoc, List.singleton_append]
              have h2 := List.perm_middle (l₁ := s.take b.1) (l₂ := s.drop b.1) (a := e)
              rw [List.take_append_drop] at h2
              exact h2
            have h3 : (e :: s ++ rr).Perm (e :: xs.take i) := hrr.cons e
            exact ((h1.append_right rr).trans h3).trans (List.perm_append_comm (l₁ := [e]) (l₂ := xs.take i))
          refine ⟨p6, _, _, w2.take many, b.2, rfl, kb4.trans kb5, kb4.free (Orc.nq hL3 n6') n6', upd_same, hL5, by rw [m1]; omega, fun z => absurd z hm0, fun z hz => mw z (List.mem_of_mem_take hz), by rw [List.length_take, lw]; omega, ⟨_, hpw⟩, fun key A => ?_⟩
          rw [et, Mir.best_step, ui key A, ← hk key A]
        · obtain ⟨hmi, hlast⟩ := hcf hc
          refine ⟨p, _, _, s, l2, rfl, kb2, np, hp2, hL2, by rw [m1]; omega, fun z => by rw [hl20 z, hl0 z], hm, by omega, ⟨rr ++ [e], by rw [et, ← List.append_assoc]; exact hrr.append_right [e]⟩, fun key A => ?_⟩
          rw [et]
          by_cases hm0 : many = 0
          · rw [hm0]
            have h := hk key A
            rw [hm0] at h
            rw [h]
            simp
          · obtain ⟨z, hz1, hz2⟩ := hlast hm0
            have h := hk key A
            rw [h] at hz1
            rw [Mir.best_keep (xs.take i) e z many (by rw [lt]; exact hmi) hz1 (hz2 key A)]
            exact h
    · rintro σ H1 ⟨p, v4, v5, s, l', rfl, kb, np, hp, hL', hl, hl0, hm, hs, ⟨rr, hrr⟩, hk⟩
      refine ⟨_, rfl, ?_⟩
      exact k H1 p s l' kb np hp hL' hl hl0 hm (by omega) ⟨rr, by rw [List.take_length] at hrr; exact hrr⟩ fun key A => by
        have h := hk key A
        rw [List.take_length] at h
        exact h
end
end Ord

set_option pp.deepTerms false
set_option pp.maxSteps 1500
namespace Ord
open PySem PySem.Spec PyProof.Rows L2 LamX
section
variable {P : Program} {w : World} {K : PySem.W.Frag} {mg : Str → Option Value} {base : Heap}
def spCounted (P : Program) (w : World) (K : PySem.W.Frag) (mg : Str → Option Value) (base : Heap) (n : Nat) : Sp := fun vs H Q _ => ∃ (O : Orc P w K mg base) (a : Addr) (xs : List V) (l : Lg), vs = [.ref a, .ref O.f] ∧
  Row K O.q H a xs ∧ O.Log l H ∧ O.All xs H ∧ xs.length ≤ 2 ^ n ∧ xs.length ≤ 1000 ∧ l.length + xs.length * Mir.clog xs.length ≤ 90000 ∧
  ∀ H' t p, KB O.q H H' → H t = none → H' t = some (.tup [.ref p, .int ((Mir.ctd O.ans xs l).2.2 : Nat)]) → H' p = some (.lst (Mir.ctd O.ans xs l).1) → p ≠ O.q → O.Log (Mir.ctd O.ans xs l).2.1 H' → Q (.ref t) H'
def N_counted : List Str := ["row", "order", "half", "one", "first", "other", "second", "found", "many", "at", "beside"]
theorem sc_counted : FnScope ["row", "order", "half", "one", "first", "other", "second", "found", "many", "at", "beside"] ["row", "order"] (defScope st_counted) := ⟨rfl, rfl, rfl, by decide +kernel, rfl, by decide +kernel, by decide +kernel⟩
theorem ok_counted (d_counted : Df K mg "counted" st_counted ["row", "order"]) (mLen : mg "len" = none) (mList : mg "list" = none) : ∀ n, FnOk P w K mg base CX0 (n + 4) d_counted.f d_counted.fd ["row", "order"] (spCounted P w K mg base n) := by
  have small : ∀ (O : Orc P w K mg base) (a : Addr) (xs : List V) (l : Lg) (H : Hp) (Q : VK), xs.length < 2 → Row K O.q H a xs → O.Log l H → (∀ H' t p, KB O.q H H' → H t = none → H' t = some (.tup [.ref p, .int ((Mir.ctd O.ans xs l).2.2 : Nat)]) → H' p = some (.lst (Mir.ctd O.ans xs l).1) → p ≠ O.q → O.Log (Mir.ctd O.ans xs l).2.1 H' → Q (.ref t) H') →
      ∀ p t, H p = none → upd H p (.lst xs) t = none → Q (.ref t) (upd (upd H p (.lst xs)) t (.tup [.ref p, .int 0])) := fun O a xs l H Q hs hR hL k p t np nt => by
    have e := Mir.ctd_small O.ans l hs
    rw [e] at k
    exact k _ t p ((KB.new np).trans (KB.new nt)) (upd_none nt) upd_same (kn nt upd_same) (Orc.nq hL np) (Orc.new (Orc.new hL np) nt)
  intro n
  induction n with
  | zero =>
    refine d_counted.F.ok sc_counted (fun vs H Q E h => ?_) (fun cdv A outer s H vs Q E hr h => ?_)
    · obtain ⟨O, a, xs, l, rfl, _⟩ := h
      rfl
    · obtain ⟨O, a, xs, l, rfl, hR, hL, dx, hn, hz, hc, k⟩ := h
      refine ⟨_, pss_cons (ps_if (pt_cmpR op_lt (pe_len mLen (pv 0)) pe_int (nomark _)) (pss_one (ps_ret (pe_tup (pa_cons (pe_callTy call_list_of (by rfl) mList (by decide +kernel) (pa_cons (pv 0) pa_nil)) (pa_cons pe_int pa_nil))))) pss_nil)
        (pss_cons ps_never (pss_cons ps_never (pss_cons ps_never (pss_cons ps_never (pss_cons ps_never (pss_cons ps_never (pss_cons ps_never (pss_cons ps_never (pss_one ps_never))))))))), ?_⟩
      refine ⟨_, rfl, a, xs, rfl, .inl hR.1, _, _, rfl, rfl, _, rfl, ?_⟩
      refine iteD (fun h1 => ?_) (fun h1 => (h1 (by simp only [Nat.pow_zero] at hn; omega)).elim)
      refine ⟨_, rfl, a, xs, rfl, .inl hR.1, fun p np => ?_⟩
      refine ⟨by show 2 ≤ sizeLine; decide, fun t nt => ?_⟩
      exact small O a xs l H Q (by simp only [Nat.pow_zero] at hn; omega) hR hL k p t np nt
  | succ n G_counted =>
    refine d_counted.F.ok sc_counted (fun vs H Q E h => ?_) (fun cdv A outer s H vs Q E hr h => ?_)
    · obtain ⟨O, a, xs, l, rfl, _⟩ := h
      rfl
    · obtain ⟨O, a, xs, l, rfl, hR, hL, dx, hn, hz, hc, k⟩ := h
      have nd := sc_counted.nd
      refine ⟨_, (pss_cons (ps_if (pt_cmpR op_lt (pe_len mLen (pv 0)) pe_int (nomark _))
    (pss_one (ps_ret (pe_tup (pa_cons (pe_callTy call_list_of (by rfl) mList (by decide +kernel) (pa_cons (pv 0) pa_nil)) (pa_cons pe_int pa_nil)))))
    pss_nil)
  (pss_cons (ps_set (i := 2) nd rfl (Or.inl rfl) (pe_op op_fdivE (pe_op op_addE (pe_len mLen (pv 0)) pe_int) pe_int))
  (pss_cons (ps_asg (pe_cd (d := d_counted) G_counted (hr.mono (by omega)) (pa_cons (pe_slice sl_list (pv 0) po_none (po_some (pv 2))) (pa_cons (pv 1) pa_nil))) (pg_tup (by rfl) (pgs_cons (pg_name (i := 3) nd rfl (Or.inl rfl)) (pgs_cons (pg_name (i := 4) nd rfl (Or.inl rfl)) pgs_nil))))
  (pss_cons (ps_asg (pe_cd (d := d_counted) G_counted (hr.mono (by omega)) (pa_cons (pe_slice sl_list (pv 0) (po_some (pv 2)) po_none) (pa_cons (pv 1) pa_nil))) (pg_tup (by rfl) (pgs_cons (pg_name (i := 5) nd rfl (Or.inl rfl)) (pgs_cons (pg_name (i := 6) nd rfl (Or.inl rfl)) pgs_nil))))
  (pss_cons (ps_set (i := 7) nd rfl (Or.inl rfl) (pe_lst pa_nil))
  (pss_cons (ps_set (i := 8) nd rfl (Or.inl rfl) (pe_op op_addE (pv 4) (pv 6)))
  (pss_cons (ps_set (i := 9) nd rfl (Or.inl rfl) pe_int)
  (pss_cons (ps_set (i := 10) nd rfl (Or.inl rfl) pe_int)
  (pss_cons (ps_while PassesOwn.never (PW.pt (pw_and (pt_cmpR op_lt (pv 9) (pe_len mLen (pv 3)) (nomark _)) (pw_and1 (pt_cmpR op_lt (pv 10) (pe_len mLen (pv 5)) (nomark _)))))
    (pss_one (ps_if (pt_cmpR op_le (pe_callV O.run (hr.mono (by omega)) (pa_cons (pe_ix ix_list (pv 3) (pv 9) (fun _ _ => rfl)) (pa_cons (pe_ix ix_list (pv 5) (pv 10) (fun _ _ => rfl)) pa_nil)) (i := 1)) pe_int (nomark _))
    (pss_cons (ps_expr (pe_bm PySem.F.plainAttrs_list PySem.F.slot_list_append PySem.F.type_list_append mt_append (pv 7) (pa_cons (pe_ix ix_list (pv 3) (pv 9) (fun _ _ => rfl)) pa_nil)))
  (pss_one (ps_set (i := 9) nd rfl (Or.inl rfl) (pe_op op_addE (pv 9) pe_int))))
    (pss_cons (ps_expr (pe_bm PySem.F.plainAttrs_list PySem.F.slot_list_append PySem.F.type_list_append mt_append (pv 7) (pa_cons (pe_ix ix_list (pv 5) (pv 10) (fun _ _ => rfl)) pa_nil)))
  (pss_cons (ps_set (i := 8) nd rfl (Or.inl rfl) (pe_op op_subE (pe_op op_addE (pv 8) (pe_len mLen (pv 3))) (pv 9)))
  (pss_one (ps_set (i := 10) nd rfl (Or.inl rfl) (pe_op op_addE (pv 10) pe_int))))))))
  (pss_one (ps_ret (pe_tup (pa_cons (pe_op op_cat (pe_op op_cat (pv 7) (pe_slice sl_list (pv 3) (po_some (pv 9)) po_none)) (pe_slice sl_list (pv 5) (po_some (pv 10)) po_none)) (pa_cons (pv 8) pa_nil)))))))))))))), ?_⟩
      refine ⟨_, rfl, a, xs, rfl, .inl hR.1, _, _, rfl, rfl, _, rfl, ?_⟩
      refine iteD (fun h1 => ?_) (fun h1 => ?_)
      · refine ⟨_, rfl, a, xs, rfl, .inl hR.1, fun p np => ?_⟩
        refine ⟨by show 2 ≤ sizeLine; decide, fun t nt => ?_⟩
        exact small O a xs l H Q (by omega) hR hL k p t np nt
      · have h2 : ¬ xs.length < 2 := by omega
        obtain ⟨h, eh⟩ : ∃ h : Nat, h = (xs.length + 1) / 2 := ⟨_, rfl⟩
        have hh : 1 ≤ h ∧ h < xs.length ∧ xs.length ≤ 2 * h ∧ h ≤ 2 ^ n := by
          rw [Nat.pow_succ] at hn
          omega
        refine ⟨_, rfl, a, xs, rfl, .inl hR.1, _, _, _, rfl, rfl, rfl, _, _, (h : Nat), rfl, rfl, ⟨by decide, by decide⟩, by show ((h : Nat) : Int) = ((xs.length : Int) + 1) / 2; omega, ?_⟩
        have cx : cutV xs none (some (h : Int)) = xs.take h := cut_to1 xs h
        have cy : cutV xs (some (h : Int)) none = xs.drop h := cut_from1 xs h
        have tx : (xs.take h).length = h := by rw [List.length_take]; omega
        have ty : (xs.drop h).length = xs.length - h := List.length_drop
        obtain ⟨c, ec⟩ : ∃ c, c = Mir.clog h := ⟨_, rfl⟩
        have ecn : Mir.clog xs.length = c + 1 := by rw [Mir.clog_half h2, ← eh, ec]
        have ec2 : Mir.clog (xs.length - h) ≤ c := by rw [ec]; exact Mir.clog_mono (by omega)
        have em3 := Nat.mul_le_mul_left (xs.length - h) ec2
        have em4 : h * c + (xs.length - h) * c = xs.length * c := by
          rw [← Nat.add_mul]
          congr 1
          omega
        have em5 : xs.length * (c + 1) = xs.length * c + xs.length := Nat.mul_succ _ _
        rw [ecn, em5] at hc
        -- one, first = counted(row[:half], order)
        refine ⟨_, rfl, _, rfl, _, rfl, a, xs, rfl, hR.1, fun p1 n1 => ?_⟩
        rw [cx]
        refine ⟨_, rfl, O, p1, xs.take h, l, rfl, Row.of upd_same (Orc.nq hL n1), Orc.new hL n1, fun x hx => O.dom (TK.new n1) (dx x (List.mem_of_mem_take hx)), by omega, by omega, by rw [tx, ← ec]; omega, fun H1 t1 q1 kb1 nt1 ht1 hq1 q1q hL1 => ?_⟩
        have kbA : KB O.q H H1 := (KB.new n1).trans kb1
        obtain ⟨A, eA⟩ : ∃ A, A = Mir.ctd O.ans (xs.take h) l := ⟨_, rfl⟩
        have qA := Mir.ctd_len O.ans _ (xs.take h) l (Nat.le_refl _)
        rw [← eA] at ht1 hq1 hL1 qA
        rw [tx, ← ec] at qA
        refine ⟨t1, _, rfl, SqT.of ht1, rfl, _, _, rfl, _, _, rfl, rfl, ?_⟩
        -- other, second = counted(row[half:], order)
        refine ⟨_, rfl, _, rfl, _, rfl, a, xs, rfl, (hR.kb kbA).1, fun p3 n3 => ?_⟩
        rw [cy]
        refine ⟨_, rfl, O, p3, xs.drop h, A.2.1, rfl, Row.of upd_same (Orc.nq hL1 n3), Orc.new hL1 n3, fun x hx => O.dom (kbA.tk.trans (TK.new n3)) (dx x (List.mem_of_mem_drop hx)), by omega, by omega, by rw [ty]; omega, fun H2 t2 q2 kb2 nt2 ht2 hq2 q2q hL2 => ?_⟩
        have kb3 : KB O.q H1 H2 := (KB.new n3).trans kb2
        have kbB : KB O.q H H2 := kbA.trans kb3
        have hq1' := kb3.keep _ _ q1q hq1
        obtain ⟨B, eB⟩ : ∃ B, B = Mir.ctd O.ans (xs.drop h) A.2.1 := ⟨_, rfl⟩
        have qB := Mir.ctd_len O.ans _ (xs.drop h) A.2.1 (Nat.le_refl _)
        rw [← eB] at ht2 hq2 hL2 qB
        rw [ty] at qB
        refine ⟨t2, _, rfl, SqT.of ht2, rfl, _, _, rfl, _, _, rfl, rfl, ?_⟩
        have big := Mir.ctd_big O.ans l h2 (a := A) (b := B) (by rw [← eh]; exact eA.symm) (by rw [← eh]; exact eB.symm)
        rw [big] at k
        have lA : A.1.length = h := qA.1
        have lB : B.1.length = xs.length - h := qB.1
        have dA : O.All A.1 H2 := fun x hx => O.dom kbB.tk (dx x (List.mem_of_mem_take (qA.2.1 x hx)))
        have dB : O.All B.1 H2 := fun x hx => O.dom kbB.tk (dx x (List.mem_of_mem_drop (qB.2.1 x hx)))
        have bound : B.2.1.length + xs.length ≤ 90000 := by omega
        -- the merge
        refine ⟨Nat.zero_le _, fun p np => ?_⟩
        refine ⟨_, rfl, _, rfl, _, _, ((A.2.2 + B.2.2 : Nat) : Int), rfl, rfl, by show ((A.2.2 + B.2.2 : Nat) : Int) = (A.2.2 : Int) + (B.2.2 : Int); omega, ?_⟩
        have pq : p ≠ O.q := Orc.nq hL2 np
        have aq1 : q1 ≠ p := ne_of_none hq1' np
        have aq2 : q2 ≠ p := ne_of_none hq2 np
        refine ⟨fun m σ H' => ∃ (i j cn : Nat) (fs : List V) (l' : Lg), σ = [some (.ref a), some (.ref O.f), some (.int (h : Nat)), some (.ref q1), some (.int (A.2.2 : Nat)), some (.ref q2), some (.int (B.2.2 : Nat)), some (.ref p), some (.int (cn : Nat)), some (.int i), some (.int j)] ∧ i ≤ A.1.length ∧ j ≤ B.1.length ∧ m = (A.1.length - i) + (B.1.length - j) ∧
          KB O.q H2 H' ∧ H' p = some (.lst fs) ∧ O.Log l' H' ∧ fs.length = i + j ∧ l'.length = B.2.1.length + i + j ∧ (Mir.mrg O.ans A.1 B.1 B.2.1).1 = fs ++ (Mir.mrg O.ans (A.1.drop i) (B.1.drop j) l').1 ∧ (Mir.mrg O.ans A.1 B.1 B.2.1).2 = (Mir.mrg O.ans (A.1.drop i) (B.1.drop j) l').2 ∧
          A.2.2 + B.2.2 + Mir.mcn O.ans A.1 B.1 B.2.1 = cn + Mir.mcn O.ans (A.1.drop i) (B.1.drop j) l' ∧ cn ≤ 1000000 + 1000 * j,
          ⟨_, 0, 0, _, [], B.2.1, rfl, Nat.zero_le _, Nat.zero_le _, rfl, KB.new np, upd_same, O.new hL2 np, rfl, rfl, rfl, rfl, rfl, ?_⟩, ?_⟩
        · have m1 : A.1.length * (A.1.length - 1) ≤ 1000 * 1000 := Nat.mul_le_mul (by omega) (by omega)
          have m2 : B.1.length * (B.1.length - 1) ≤ 1000 * 1000 := Nat.mul_le_mul (by omega) (by omega)
          have a5 := qA.2.2.2.2
          have b5 := qB.2.2.2.2
          rw [lA] at m1
          rw [lB] at m2
          omega
        rintro m σ H' ⟨i, j, cn, fs, l', rfl, hi, hj, hm, kb, hp, hL', hfs, hl', e1, e2, e3, hcn⟩
        have ha' : H' q1 = some (.lst A.1) := kb.keep _ _ q1q hq1'
        have hb' : H' q2 = some (.lst B.1) := kb.keep _ _ q2q hq2
        have cx : cutV A.1 (some (i : Int)) none = A.1.drop i := cut_from1 A.1 i
        have cy : cutV B.1 (some (j : Int)) none = B.1.drop j := cut_from1 B.1 j
        have lx : (A.1.drop i).length = A.1.length - i := List.length_drop
        have ly : (B.1.drop j).length = B.1.length - j := List.length_drop
        -- behind the loop
        have fin : (¬ i < A.1.length ∨ ¬ j < B.1.length) → (tRet (tTup (tCons (tOp rCat (tOp rCat (tVar 7) (tSl (rSlL K) (tVar 3) (tPart (tVar 9)) tNoPart)) (tSl (rSlL K) (tVar 5) (tPart (tVar 10)) tNoPart)) (tCons (tVar 8) tNil)))) { nx := fun _ H' => Q .non H', rt := Q } [some (.ref a), some (.ref O.f), some (.int (h : Nat)), some (.ref q1), some (.int (A.2.2 : Nat)), some (.ref q2), some (.int (B.2.2 : Nat)), some (.ref p), some (.int (cn : Nat)), some (.int i), some (.int j)] H' := by
          intro hne
          refine ⟨_, rfl, _, rfl, _, rfl, _, rfl, _, _, rfl, SqL.of ha', fun p1 n1 => ?_⟩
          rw [cx]
          refine ⟨p, p1, fs, A.1.drop i, rfl, rfl, (upd_ne (ne_of_none hp n1)).trans hp, upd_same, z1000 (by omega), fun p2 n2 => ?_⟩
          refine ⟨_, rfl, _, rfl, _, rfl, _, _, rfl, SqL.of ((upd_ne (ne_of_none ((upd_ne (ne_of_none hb' n1)).trans hb') n2)).trans ((upd_ne (ne_of_none hb' n1)).trans hb')), fun p3 n3 => ?_⟩
          rw [cy]
          refine ⟨p2, p3, fs ++ A.1.drop i, B.1.drop j, rfl, rfl, (upd_ne (ne_of_none upd_same n3)).trans upd_same, upd_same, z1000 (by rw [List.length_append]; omega), fun p4 n4 => ?_⟩
          refine ⟨_, rfl, by show 2 ≤ sizeLine; decide, fun t nt => ?_⟩
          have kb4 : KB O.q H' (upd (upd (upd (upd H' p1 (.lst (A.1.drop i))) p2 (.lst (fs ++ A.1.drop i))) p3 (.lst (B.1.drop j))) p4 (.lst (fs ++ A.1.drop i ++ B.1.drop j))) := (((KB.new n1).trans (KB.new n2)).trans (KB.new n3)).trans (KB.new n4)
          have hL4 := Orc.new (o := .lst (fs ++ A.1.drop i ++ B.1.drop j)) (Orc.new (o := .lst (B.1.drop j)) (Orc.new (o := .lst (fs ++ A.1.drop i)) (Orc.new (o := .lst (A.1.drop i)) hL' n1) n2) n3) n4
          have em : Mir.mrg O.ans (A.1.drop i) (B.1.drop j) l' = (A.1.drop i ++ B.1.drop j, l') ∧ Mir.mcn O.ans (A.1.drop i) (B.1.drop j) l' = 0 := by
            rcases hne with z | z
            · rw [List.drop_of_length_le (by omega : A.1.length ≤ i), Mir.mrg_nil, Mir.mcn_nil]
              exact ⟨rfl, rfl⟩
            · rw [List.drop_of_length_le (by omega : B.1.length ≤ j), Mir.mrg_nil2, Mir.mcn_nil2, List.append_nil]
              exact ⟨rfl, rfl⟩
          rw [em.1] at e1 e2
          rw [em.2, Nat.add_zero] at e3
          have kbT := ((kbB.trans kb).trans kb4).trans (KB.new (o := .tup [.ref p4, .int (cn : Nat)]) nt)
          have hLT := Orc.new (o := .tup [.ref p4, .int (cn : Nat)]) hL4 nt
          refine k _ t p4 kbT (((kbB.trans kb).trans kb4).free (Orc.nq hL4 nt) nt) (by rw [upd_same]; show _ = some (HO.tup [.ref p4, .int ((A.2.2 + B.2.2 + Mir.mcn O.ans A.1 B.1 B.2.1 : Nat) : Int)]); rw [e3]) ?_ ?_ ?_
          · show upd _ t _ p4 = some (.lst (Mir.mrg O.ans A.1 B.1 B.2.1).1)
            rw [kn nt upd_same, e1, List.append_assoc]
          · exact Orc.nq hL' (upd_none (upd_none (upd_none n4)))
          · show O.Log (Mir.mrg O.ans A.1 B.1 B.2.1).2 _
            rw [e2]
            exact hLT
        refine ⟨_, rfl, _, rfl, q1, A.1, rfl, .inl (SqL.of ha'), _, _, rfl, rfl, _, rfl, ?_⟩
        refine iteD (fun h1 => ?_) (fun h1 => iteF (fin (.inl (by omega))))
        refine ⟨_, rfl, _, rfl, q2, B.1, rfl, .inl (SqL.of hb'), _, _, rfl, rfl, _, rfl, ?_⟩
        refine iteD (fun h2 => ?_) (fun h2 => fin (.inr (by omega)))
        have h1' : i < A.1.length := by omega
        have h2' : j < B.1.length := by omega
        obtain ⟨x, ex⟩ : ∃ x, A.1[i]? = some x := ⟨_, List.getElem?_eq_getElem h1'⟩
        obtain ⟨y, ey⟩ : ∃ y, B.1[j]? = some y := ⟨_, List.getElem?_eq_getElem h2'⟩
        rw [Mir.drop_cons ex, Mir.drop_cons ey, Mir.mrg_cons] at e1 e2
        rw [Mir.drop_cons ex, Mir.drop_cons ey, Mir.mcn_cons] at e3
        refine ⟨_, fun _ _ h => h, ?_⟩
        -- the question
        refine ⟨rfl, O.isf hL', _, rfl, _, rfl, q1, A.1, _, x, rfl, rfl, SqL.of ha', atI_nat ex, _, rfl, _, rfl, q2, B.1, _, y, rfl, rfl, SqL.of hb', atI_nat ey, O.isf hL', x, y, l', rfl, hL', by omega, (dA.tk kb.tk).get ex, (dB.tk kb.tk).get ey, fun H3 kb1 hL1 => ?_⟩
        have kb' := kb.trans kb1
        have hp1 := kb1.keep _ _ pq hp
        have ha1 := kb1.keep _ _ q1q ha'
        have hb1 := kb1.keep _ _ q2q hb'
        refine ⟨_, _, rfl, rfl, _, rfl, ?_⟩
        refine iteD (fun hc => ?_) (fun hc => ?_)
        · rw [if_pos hc] at e1 e2 e3
          refine ⟨_, rfl, .inl ⟨rfl, _, SqL.of hp1⟩, _, rfl, _, rfl, q1, A.1, _, x, rfl, rfl, SqL.of ha1, atI_nat ex, p, fs, x, rfl, rfl, hp1, small1000 (by omega), ?_⟩
          refine ⟨_, rfl, _, _, ((i + 1 : Nat) : Int), rfl, rfl, rfl, ?_⟩
          refine ⟨_, ?_, i + 1, j, cn, fs ++ [x], _, rfl, by omega, by omega, rfl, kb'.wr np, upd_same, Orc.wr hL1 hp1 nf_lst pq, ?_, ?_, ?_, ?_, ?_, hcn⟩
          · omega
          · rw [List.length_append, List.length_singleton]
            omega
          · rw [List.length_append, List.length_singleton]
            omega
          · rw [e1, Mir.drop_cons ey]
            simp
          · rw [e2, Mir.drop_cons ey]
          · rw [e3, Mir.drop_cons ey]
        · rw [if_neg hc] at e1 e2 e3
          refine ⟨_, rfl, .inl ⟨rfl, _, SqL.of hp1⟩, _, rfl, _, rfl, q2, B.1, _, y, rfl, rfl, SqL.of hb1, atI_nat ey, p, fs, y, rfl, rfl, hp1, small1000 (by omega), ?_⟩
          have ha2 : upd H3 p (.lst (fs ++ [y])) q1 = some (.lst A.1) := (upd_ne aq1).trans ha1
          have ld : (A.1.drop (i + 1)).length = A.1.length - (i + 1) := List.length_drop
          refine ⟨_, rfl, _, rfl, q1, A.1, rfl, .inl (SqL.of ha2), _, _, ((cn + A.1.length : Nat) : Int), rfl, rfl, (by show ((cn + A.1.length : Nat) : Int) = (cn : Int) + (A.1.length : Int); omega), _, rfl, _, _, ((cn + (A.1.length - i) : Nat) : Int), rfl, rfl, (by show ((cn + (A.1.length - i) : Nat) : Int) = ((cn + A.1.length : Nat) : Int) - (i : Int); omega), ?_⟩
          refine ⟨_, rfl, _, _, ((j + 1 : Nat) : Int), rfl, rfl, rfl, ?_⟩
          refine ⟨_, ?_, i, j + 1, cn + (A.1.length - i), fs ++ [y], _, rfl, by omega, by omega, rfl, kb'.wr np, upd_same, Orc.wr hL1 hp1 nf_lst pq, ?_, ?_, ?_, ?_, ?_, ?_⟩
          · omega
          · rw [List.length_append, List.length_singleton]
            omega
          · rw [List.length_append, List.length_singleton]
            omega
          · rw [e1, Mir.drop_cons ex]
            simp
          · rw [e2, Mir.drop_cons ex]
          · rw [e3, Mir.drop_cons ex, ld]
            omega
          · omega
/-! ### turned_pairs -/
def spTurned (P : Program) (w : World) (K : PySem.W.Frag) (mg : Str → Option Value) (base : Heap) : Sp := fun vs H Q _ => ∃ (O : Orc P w K mg base) (a : Addr) (xs : List V) (l : Lg), vs = [.ref a, .ref O.f] ∧
  Row K O.q H a xs ∧ O.Log l H ∧ O.All xs H ∧ xs.length ≤ 64 ∧ l.length + xs.length * Mir.clog xs.length ≤ 90000 ∧
  ∀ H', KB O.q H H' → O.Log (Mir.ctd O.ans xs l).2.1 H' → Q (.int ((Mir.ctd O.ans xs l).2.2 : Nat)) H'
def N_turned_pairs : List Str := ["row", "order"]
theorem sc_turned_pairs : FnScope ["row", "order"] ["row", "order"] (defScope st_turned_pairs) := ⟨rfl, rfl, rfl, by decide +kernel, rfl, by decide +kernel, by decide +kernel⟩
theorem ok_turned (d_turned_pairs : Df K mg "turned_pairs" st_turned_pairs ["row", "order"]) (d_counted : Df K mg "counted" st_counted ["row", "order"]) (mLen : mg "len" = none) (mList : mg "list" = none) : FnOk P w K mg base CX0 11 d_turned_pairs.f d_turned_pairs.fd ["row", "order"] (spTurned P w K mg base) := by
  have G_counted : FnOk P w K mg base CX0 10 d_counted.f d_counted.fd ["row", "order"] (spCounted P w K mg base 6) := ok_counted d_counted mLen mList 6
  refine d_turned_pairs.F.ok sc_turned_pairs (fun vs H Q E h => ?_) (fun cdv A outer s H vs Q E hr h => ?_)
  · obtain ⟨O, a, xs, l, rfl, _⟩ := h
    rfl
  · obtain ⟨O, a, xs, l, rfl, hR, hL, dx, hz, hc, k⟩ := h
    have nd := sc_turned_pairs.nd
    refine ⟨_, (pss_one (ps_ret (pe_ix ix_tup (pe_cd (d := d_counted) G_counted (hr.mono (by omega)) (pa_cons (pv 0) (pa_cons (pv 1) pa_nil))) pe_int (fun _ _ => rfl)))), ?_⟩
    refine ⟨_, rfl, _, rfl, O, a, xs, l, rfl, hR, hL, dx, hz, by omega, hc, fun H1 t p kb nt ht hp pq hL1 => ?_⟩
    exact ⟨t, _, _, _, rfl, rfl, SqT.of ht, rfl, k H1 kb hL1⟩
end
end Ord

/-! rising: the longest rising row of places, by piles. -/
namespace Mir
section
variable {α : Type} {key : α → Int}
/-- the greatest of a row, 0 of none -/
def mxn : List Nat → Nat
  | [] => 0
  | x :: xs => max x (mxn xs)
theorem mxn_ge {xs : List Nat} {x : Nat} (h : x ∈ xs) : x ≤ mxn xs := by
  induction xs with
  | nil => cases h
  | cons y ys ih =>
    rw [mxn]
    rcases List.mem_cons.mp h with q | q
    · rw [q]; omega
    · have := ih q; omega
theorem mxn_le {xs : List Nat} {c : Nat} (h : ∀ x ∈ xs, x ≤ c) : mxn xs ≤ c := by
  induction xs with
  | nil => exact Nat.zero_le _
  | cons y ys ih =>
    rw [mxn]
    have h1 := h y List.mem_cons_self
    have h2 := ih fun x hx => h x (List.mem_cons_of_mem _ hx)
    omega
theorem mxn_eq {xs : List Nat} {c : Nat} (h : ∀ x ∈ xs, x ≤ c) (hc : c = 0 ∨ c ∈ xs) : mxn xs = c := by
  have h1 := mxn_le h
  rcases hc with q | q
  · omega
  · have := mxn_ge q; omega
/-- the law's own table: each element and how long a rising row ends there -/
def stepM (key : α → Int) (m : List (α × Nat)) (x : α) : List (α × Nat) := m ++ [(x, 1 + mxn ((m.filter fun p => decide (key p.1 < key x)).map (·.2)))]
def mdl (key : α → Int) (xs : List α) : List (α × Nat) := xs.foldl (stepM key) []
def longest (key : α → Int) (xs : List α) : Nat := mxn ((mdl key xs).map (·.2))
theorem mdl_snoc (xs : List α) (x : α) : mdl key (xs ++ [x]) = stepM key (mdl key xs) x := by
  unfold mdl
  rw [List.foldl_append]
  rfl
theorem mdl_map (xs : List α) : (mdl key xs).map (·.1) = xs := by
  have a : ∀ (ys : List α) (m : List (α × Nat)), (ys.foldl (stepM key) m).map (·.1) = m.map (·.1) ++ ys := by
    intro ys
    induction ys with
    | nil => intro m; simp
    | cons y ys ih =>
      intro m
      rw [List.foldl_cons, ih]
      unfold stepM
      simp
  have := a xs []
  simpa [mdl] using this
theorem mdl_len (xs : List α) : (mdl key xs).length = xs.length := by
  have h := congrArg List.length (mdl_map (key := key) xs)
  simpa using h
theorem mdl_el {xs : List α} {j : Nat} {p : α × Nat} (h : (mdl key xs)[j]? = some p) : xs[j]? = some p.1 := by
  have e := mdl_map (key := key) xs
  rw [← e, List.getElem?_map, h]
  rfl
/-- what the piles know, by a key; m: the table so far -/
structure Pat (key : α → Int) (m : List (α × Nat)) (tails : List Nat) (before : List Int) : Prop where
  cls : ∀ (p t : Nat), tails[p]? = some t → ∃ x, m[t]? = some (x, p + 1)
  top : ∀ (j : Nat) (x : α) (c : Nat), m[j]? = some (x, c) → 1 ≤ c ∧ c ≤ tails.length ∧ ∀ (t : Nat) (y : α) (c' : Nat), tails[c - 1]? = some t → m[t]? = some (y, c') → key y ≤ key x
  inc : ∀ (p q t u : Nat) (x y : α) (c d : Nat), p < q → tails[p]? = some t → tails[q]? = some u → m[t]? = some (x, c) → m[u]? = some (y, d) → key x < key y
  bef : ∀ (j : Nat) (x : α) (c : Nat), m[j]? = some (x, c) → (c = 1 → before[j]? = some (-1)) ∧ (2 ≤ c → ∃ (i : Nat) (y : α), before[j]? = some (i : Int) ∧ i < j ∧ m[i]? = some (y, c - 1) ∧ key y < key x)
theorem Pat.nil : Pat key ([] : List (α × Nat)) [] [] := ⟨fun p t h => by simp at h, fun j x c h => by simp at h, fun p q t u x y c d _ h => by simp at h, fun j x c h => by simp at h⟩
theorem get_snoc {β : Type} {m : List β} {z p : β} {j : Nat} (h : (m ++ [z])[j]? = some p) : m[j]? = some p ∨ (j = m.length ∧ p = z) := by
  rw [List.getElem?_append] at h
  split at h
  · exact .inl h
  · next q =>
    have e : j - m.length = 0 := by
      rcases Nat.eq_zero_or_pos (j - m.length) with z | z
      · exact z
      · rw [List.getElem?_eq_none (by rw [List.length_singleton]; exact z)] at h
        cases h
    rw [e] at h
    simp at h
    exact .inr ⟨by omega, h.symm⟩
theorem get_left {β : Type} {m r : List β} {p : β} {j : Nat} (h : m[j]? = some p) : (m ++ r)[j]? = some p := by
  rw [List.getElem?_append_left (List.getElem?_eq_some_iff.mp h).1]
  exact h
/-- the piles with k put at low -/
def putP (tails : List Nat) (low k : Nat) : List Nat := tails.take low ++ [k] ++ tails.drop (low + 1)
theorem putP_get {tails : List Nat} {low k p t : Nat} (hl : low ≤ tails.length) (h : (putP tails low k)[p]? = some t) : (p = low ∧ t = k) ∨ (p ≠ low ∧ tails[p]? = some t) := by
  unfold putP at h
  have lt : (tails.take low).length = low := by rw [List.length_take]; omega
  rw [List.append_assoc, List.getElem?_append] at h
  split at h
  · next q =>
    rw [lt] at q
    rw [List.getElem?_take, if_pos q] at h
    exact .inr ⟨by omega, h⟩
  · next q =>
    rw [lt] at q h
    by_cases e : p = low
    · rw [e, Nat.sub_self] at h
      simp at h
      exact .inl ⟨e, h.symm⟩
    · obtain ⟨d, hd⟩ : ∃ d, p - low = d + 1 := ⟨p - low - 1, by omega⟩
      rw [hd] at h
      simp at h
      have e2 : low + 1 + d = p := by omega
      rw [e2] at h
      exact .inr ⟨e, h⟩
theorem putP_len {tails : List Nat} {low k : Nat} (hl : low ≤ tails.length) : (putP tails low k).length = max tails.length (low + 1) := by
  unfold putP
  rw [List.length_append, List.length_append, List.length_take, List.length_drop, List.length_singleton]
  omega
theorem putP_at {tails : List Nat} {low k : Nat} (hl : low ≤ tails.length) : (putP tails low k)[low]? = some k := by
  unfold putP
  have lt : (tails.take low).length = low := by rw [List.length_take]; omega
  rw [List.append_assoc, List.getElem?_append_right (by omega), lt, Nat.sub_self]
  rfl
/-- one element more: low piles lie below it -/
theorem Pat.step {m : List (α × Nat)} {tails : List Nat} {before : List Int} (P : Pat key m tails before) (x : α) {low : Nat} {b : Int} (hl : low ≤ tails.length)
    (hlow : ∀ (p t : Nat) (y : α) (c : Nat), tails[p]? = some t → m[t]? = some (y, c) → (key y < key x ↔ p < low))
    (hb0 : low = 0 → b = -1) (hb1 : ∀ t, 0 < low → tails[low - 1]? = some t → b = (t : Int)) (hbl : before.length = m.length) :
    Pat key (stepM key m x) (putP tails low m.length) (before ++ [b]) := by
  have mt : ∀ (p t : Nat), tails[p]? = some t → ∃ y, m[t]? = some (y, p + 1) ∧ t < m.length := fun p t h => by
    obtain ⟨y, hy⟩ := P.cls p t h
    exact ⟨y, hy, (List.getElem?_eq_some_iff.mp hy).1⟩
  have em : stepM key m x = m ++ [(x, low + 1)] := by
    unfold stepM
    have e : mxn ((m.filter fun p => decide (key p.1 < key x)).map (·.2)) = low := by
      refine mxn_eq (fun c hc => ?_) ?_
      · obtain ⟨⟨y, c'⟩, hp, rfl⟩ := List.mem_map.mp hc
        obtain ⟨hp1, hp2⟩ := List.mem_filter.mp hp
        have hp2 : key y < key x := of_decide_eq_true hp2
        obtain ⟨j, hj⟩ := List.mem_iff_getElem?.mp hp1
        obtain ⟨h1, h2, h3⟩ := P.top j y c' hj
        obtain ⟨t, ht⟩ : ∃ t, tails[c' - 1]? = some t := ⟨_, List.getElem?_eq_getElem (by omega)⟩
        obtain ⟨z, hz, _⟩ := mt _ t ht
        have h4 := h3 t z _ ht hz
        have h5 := (hlow _ t z _ ht hz).mp (by omega)
        show c' ≤ low
        omega
      · rcases Nat.eq_zero_or_pos low with z | z
        · exact .inl z
        · obtain ⟨t, ht⟩ : ∃ t, tails[low - 1]? = some t := ⟨_, List.getElem?_eq_getElem (by omega)⟩
          obtain ⟨y, hy, _⟩ := mt _ t ht
          have h5 := (hlow _ t y _ ht hy).mpr (by omega)
          refine .inr (List.mem_map.mpr ⟨(y, low - 1 + 1), List.mem_filter.mpr ⟨List.mem_of_getElem? hy, decide_eq_true h5⟩, by show low - 1 + 1 = low; omega⟩)
    rw [e, Nat.add_comm]
  rw [em]
  have new : (m ++ [(x, low + 1)])[m.length]? = some (x, low + 1) := by rw [List.getElem?_append_right (Nat.le_refl _), Nat.sub_self]; rfl
  have old : ∀ {t : Nat} {p : α × Nat}, t < m.length → (m ++ [(x, low + 1)])[t]? = some p → m[t]? = some p := fun {t p} ht h => by
    rwa [List.getElem?_append_left ht] at h
  -- the key at a pile of the new ones
  have hk : ∀ (p t : Nat) (y : α) (c : Nat), (putP tails low m.length)[p]? = some t → (m ++ [(x, low + 1)])[t]? = some (y, c) → (p = low ∧ y = x) ∨ (p ≠ low ∧ tails[p]? = some t ∧ m[t]? = some (y, c)) := fun p t y c h1 h2 => by
    rcases putP_get hl h1 with ⟨q1, q2⟩ | ⟨q1, q2⟩
    · rw [q2, new] at h2
      injection h2 with h2
      injection h2 with h2 _
      exact .inl ⟨q1, h2.symm⟩
    · obtain ⟨_, _, ht⟩ := mt p t q2
      exact .inr ⟨q1, q2, old ht h2⟩
  refine ⟨fun p t h => ?_, fun j y c h => ?_, fun p q t u y z c d hpq h1 h2 h3 h4 => ?_, fun j y c h => ?_⟩
  · rcases putP_get hl h with ⟨q1, q2⟩ | ⟨q1, q2⟩
    · rw [q1, q2]
      exact ⟨x, new⟩
    · obtain ⟨y, hy, _⟩ := mt p t q2
      exact ⟨y, get_left hy⟩
  · rw [putP_len hl]
    rcases get_snoc h with h | ⟨h, hp⟩
    · obtain ⟨h1, h2, h3⟩ := P.top j y c h
      refine ⟨h1, by omega, fun t z c' ht hz => ?_⟩
      rcases hk _ t z c' ht hz with ⟨q1, q2⟩ | ⟨q1, q2, q3⟩
      · obtain ⟨u, hu⟩ : ∃ u, tails[c - 1]? = some u := ⟨_, List.getElem?_eq_getElem (by omega)⟩
        obtain ⟨v, hv, _⟩ := mt _ u hu
        have h4 := h3 u v _ hu hv
        have h5 : ¬ key v < key x := fun q => by
          have := (hlow _ u v _ hu hv).mp q
          omega
        rw [q2]
        omega
      · exact h3 t z c' q2 q3
    · injection hp with hp1 hp2
      subst hp1
      refine ⟨by omega, by omega, fun t z c' ht hz => ?_⟩
      rcases hk _ t z c' ht hz with ⟨q1, q2⟩ | ⟨q1, q2, q3⟩
      · rw [q2]; exact Int.le_refl _
      · exact absurd (by omega) q1
  · rcases hk p t y c h1 h3 with ⟨a1, a2⟩ | ⟨a1, a2, a3⟩
    · rcases hk q u z d h2 h4 with ⟨b1, b2⟩ | ⟨b1, b2, b3⟩
      · omega
      · obtain ⟨u', hu'⟩ : ∃ u', tails[low]? = some u' := ⟨_, List.getElem?_eq_getElem (by have := (List.getElem?_eq_some_iff.mp b2).1; omega)⟩
        obtain ⟨v, hv, _⟩ := mt _ u' hu'
        have h5 : ¬ key v < key x := fun r => by
          have := (hlow _ u' v _ hu' hv).mp r
          omega
        have h6 := P.inc low q u' u v z _ d (by omega) hu' b2 hv b3
        rw [a2]
        omega
    · rcases hk q u z d h2 h4 with ⟨b1, b2⟩ | ⟨b1, b2, b3⟩
      · rw [b2]
        exact (hlow p t y c a2 a3).mpr (by omega)
      · exact P.inc p q t u y z c d hpq a2 b2 a3 b3
  · rcases get_snoc h with h | ⟨hj, hp⟩
    · obtain ⟨h1, h2⟩ := P.bef j y c h
      refine ⟨fun e => get_left (h1 e), fun e => ?_⟩
      obtain ⟨i, z, e1, e2, e3, e4⟩ := h2 e
      exact ⟨i, z, get_left e1, e2, get_left e3, e4⟩
    · injection hp with hp1 hp2
      subst hp1
      have bl : (before ++ [b])[j]? = some b := by rw [hj, ← hbl, List.getElem?_append_right (Nat.le_refl _), Nat.sub_self]; rfl
      refine ⟨fun e => by rw [bl, hb0 (by omega)], fun e => ?_⟩
      obtain ⟨t, ht⟩ : ∃ t, tails[low - 1]? = some t := ⟨_, List.getElem?_eq_getElem (by omega)⟩
      obtain ⟨z, hz, hzl⟩ := mt _ t ht
      refine ⟨t, z, by rw [bl, hb1 t (by omega) ht], by omega, ?_, (hlow _ t z _ ht hz).mpr (by omega)⟩
      rw [get_left hz, show low - 1 + 1 = c - 1 by omega]
theorem Pat.longest {xs : List α} {tails : List Nat} {before : List Int} (P : Pat key (mdl key xs) tails before) : tails.length = longest key xs := by
  unfold Mir.longest
  refine (mxn_eq (fun c hc => ?_) ?_).symm
  · obtain ⟨⟨y, c'⟩, hp, rfl⟩ := List.mem_map.mp hc
    obtain ⟨j, hj⟩ := List.mem_iff_getElem?.mp hp
    exact (P.top j y c' hj).2.1
  · rcases Nat.eq_zero_or_pos tails.length with z | z
    · exact .inl z
    · obtain ⟨t, ht⟩ : ∃ t, tails[tails.length - 1]? = some t := ⟨_, List.getElem?_eq_getElem (by omega)⟩
      obtain ⟨x, hx⟩ := P.cls _ t ht
      exact .inr (List.mem_map.mpr ⟨_, List.mem_of_getElem? hx, by show tails.length - 1 + 1 = tails.length; omega⟩)
end
end Mir

/-! list(reversed(a list)) -/
namespace Ord
open PySem PySem.Spec PyProof.Rows L2 RT
section
variable {prog : Program} {w : World} {A : Around} {E : Value → Shared → Prop} {s : Shared}
theorem lst_rev {it l : Addr} {items : Array Value} {Q : Value → Shared → Prop} (hh : A.handled = none) (hit : s.heap.IsRevIter it l ((items.size : Int) - 1)) (hl : s.heap.IsList l items) (hne : l ≠ it) (hn : items.size ≤ sizeLine)
    (hQ : ∀ (h' : Heap) (tk : Nat) (acc : Array Value) (c : Nat), (∀ b o, b ≠ it → s.heap.get? b = some o → h'.get? b = some o) → h'.get? s.heap.objs.size = some { cls := .type "list", dict := none, data := .seq acc c, slots := #[] } →
      ItemsOf (fun i v => items[items.size - 1 - i]? = some v) acc items.size → Q (.ref s.heap.objs.size) { s with heap := h', toks := tk }) :
    wpAny (model prog w) A (call (.type "list") [.ref it]) Q E s := by
  have W := (Walks.listRev (prog := prog) (w := w) (A := A.in1.in1) hh it l hne items).toS
  obtain ⟨oi, hoi, _⟩ := id hit
  obtain ⟨ol, hol, _⟩ := id hl
  have hSi : s.heap.objs.size ≠ it := Nat.ne_of_gt (Heap.lt_size hoi)
  have hSl : s.heap.objs.size ≠ l := Nat.ne_of_gt (Heap.lt_size hol)
  have hSf : s.heap.objs.size ∉ [it, l] := by simp only [List.mem_cons, List.not_mem_nil, or_false, not_or]; exact ⟨hSi, hSl⟩
  refine callType_codes (Q₁ := fun obj s₁ => obj = .ref s.heap.objs.size ∧ s₁ = { s with heap := s.heap.push { cls := .type "list", data := .seq #[] } }) F.called_list (F.typeCall_list_1 _) F.entry_list_init
    (code_list_new _ ⟨rfl, rfl⟩) fun obj s₁ h₁ => ?_
  obtain ⟨rfl, rfl⟩ := h₁
  have hS : (s.heap.push { cls := .type "list", data := .seq #[] }).get? s.heap.objs.size = some { cls := .type "list", data := .seq #[] } := Heap.get?_push_size _ rfl
  refine ⟨⟨_, hS, rfl⟩, F.args_list_init_2 _ _, ?_⟩
  show wpAny _ A.in1.in1 (do let old ← Builtin.List.listItems (.ref s.heap.objs.size); Builtin.List.listUpdate (.ref s.heap.objs.size) (fun _ => #[]); letGo old.toList.reverse; Builtin.List.listExtendWith (.ref s.heap.objs.size) (.ref it) .none) _ _ _
  refine wpAny_bind ?_
  unfold Builtin.List.listItems
  refine wpAny_bind (wpAny_seqItems hS rfl (wpAny_pure ?_))
  show wpAny _ A.in1.in1 (updateSeq s.heap.objs.size (fun _ => #[]) >>= fun _ => letGo (#[] : Array Value).toList.reverse >>= fun _ => Builtin.List.listExtendWith (.ref s.heap.objs.size) (.ref it) .none) _ _ _
  refine wpAny_bind (wpAny_updateSeq hS rfl ?_)
  have hS₂ := Heap.get?_update_self (Obj.mapSeq (fun _ => (#[] : Array Value))) hS rfl
  have oth : ∀ b o, b ≠ s.heap.objs.size → s.heap.get? b = some o → ((s.heap.push { cls := .type "list", data := .seq #[] }).update s.heap.objs.size (Obj.mapSeq (fun _ => (#[] : Array Value)))).get? b = some o :=
    fun b o hb e => (Heap.get?_update_other _ _ (Ne.symm hb)).trans (Heap.get?_push_of_some _ e)
  have oth2 : ∀ b o, s.heap.get? b = some o → ((s.heap.push { cls := .type "list", data := .seq #[] }).update s.heap.objs.size (Obj.mapSeq (fun _ => (#[] : Array Value)))).get? b = some o :=
    fun b o e => oth b o (Nat.ne_of_lt (Heap.lt_size e)) e
  refine wpAny_bind (wpAny_letGo ?_)
  generalize hG : (s.heap.push { cls := .type "list", data := .seq #[] }).update s.heap.objs.size (Obj.mapSeq (fun _ => (#[] : Array Value))) = hp at hS₂ oth oth2 ⊢
  have hit1 : hp.IsRevIter it l ((items.size : Int) - 1) := hit.at fun o e => oth2 _ _ e
  have hl1 : hp.IsList l items := hl.at fun o e => oth2 _ _ e
  have hT : ({ s with heap := hp } : Shared).TypeIs (.ref it) "list_reverseiterator" := Heap.IsRevIter.typeIs (s := { s with heap := hp }) hit1
  have h1 : Builtin.List.listSameRef (.ref s.heap.objs.size) (.ref it) = false := by simp [Builtin.List.listSameRef, hSi]
  unfold Builtin.List.listExtendWith
  refine wpAny_bind (wpAny_typeOf hT ?_)
  rw [if_neg (by rw [h1]; decide)]
  refine wpAny_bind (wpAny_pyIter_revIter (s := { s with heap := hp }) hit1 ?_)
  refine wpAny_bind (wpAny_holding ?_)
  unfold Builtin.List.listLengthHint
  refine wpAny_bind (wpAny_specialOf hT nolen_lri ?_)
  show wpAny _ A.in1.in1 (specialOf (Value.ref it) (Str.ofString "__length_hint__") >>= _) _ _ _
  refine wpAny_bind (wpAny_specialOf hT hint_lri ?_)
  generalize hid : ("list_reverseiterator.__length_hint__" : String) = id0
  wp_delta
  rw [show splitId id0 = some ("list_reverseiterator", "__length_hint__") from by subst hid; decide +kernel]
  subst hid
  refine wpAny_bind (wpAny_isInstance (b := true) hT (by rw [isSubtype_type]; kernel_rfl) ?_)
  refine wpAny_pure ?_
  rw [if_neg (by decide)]
  have e0 : ((items.size : Nat) : Int) - 1 - ((0 : Nat) : Int) = (items.size : Int) - 1 := by omega
  refine wpAny_pure ⟨plainId_quiet F.plain_extend_loop _, codeAny_extend_loopS W hn _ hSf _ items.size 0 _ _ _ rfl (Nat.zero_le _) ⟨Nat.zero_le _, by rw [e0]; exact hit1, hl1⟩ hS₂ (ItemsOf.nil _) fun s' acc' c' hm hS' hacc => ?_⟩
  refine ⟨rfl, ?_⟩
  rw [Moved.eq_with hm]
  refine hQ s'.heap s'.toks acc' c' (fun b o hb e => hm.heap b o (fun hmem => ?_) (oth2 b o e)) hS' hacc
  rcases List.mem_cons.mp hmem with e' | hmem
  · exact absurd (Heap.lt_size e) (by rw [e']; exact Nat.lt_irrefl _)
  · exact hb (List.mem_singleton.mp hmem)
end
def tLstRev (K : PySem.W.Frag) (te : TE) : TE := fun σ H Q => te σ H fun v H1 => ∃ (a : Addr) (xs : List V), v = .ref a ∧ SqL K H1 a xs ∧ ∀ q, H1 q = none → Q (.ref q) (upd H1 q (.lst xs.reverse))
theorem pe_lstRev {X : Cx} {K : PySem.W.Frag} {e : Expr} {te : TE} {p p2 pos pos2 : Pos} (hc : X.calm = true) (hg : Gl X "list") (hm : X.mg "list" = none) (hg2 : Gl X "reversed") (hm2 : X.mg "reversed" = none) (he : PE X e te) (hK : X.K = K := by rfl)
    (hs : starEach [e] X.env = (false, eval e X.env) :: starEach [] X.env := by rfl)
    (hs2 : starEach [.Call (.Name "reversed" p2) [e] [] pos2] X.env = (false, eval (.Call (.Name "reversed" p2) [e] [] pos2) X.env) :: starEach [] X.env := by rfl) :
    PE X (.Call (.Name "list" p) [.Call (.Name "reversed" p2) [e] [] pos2] [] pos) (tLstRev K te) := by
  subst hK
  refine ⟨fun pins s σ H Q I h => ?_⟩
  refine Call_ (ld_blt I hg hm boot_list (PyProof.Rows.callWith_type1 (args_cons (Call_ (ld_blt I hg2 hm2 PyProof.Rows.boot_reversed (PyProof.Rows.callWith_type1 (args_cons (thn (he.run pins s σ H _ I h) fun u s1 ⟨v, H1, I1, r1, q1⟩ => args_nil ?_) hs) hs rfl))) hs2) hs2 rfl))
  obtain ⟨a, xs, ev, hq, q⟩ := q1
  subst ev
  obtain rfl : u = Value.ref a := r1
  obtain ⟨its, rv, p', hz⟩ := I1.list hq
  refine call_reversed_list p'.isList (args_nil ?_)
  have k0 : ∀ b o, s1.heap.get? b = some o → (s1.heap.push (revObj a ((its.toArray.size : Int) - 1))).get? b = some o := fun b o e => Heap.get?_push_of_some _ e
  have I2 : Inv X pins σ H1 { s1 with heap := s1.heap.push (revObj a ((its.toArray.size : Int) - 1)) } := I1.kept (t' := s1.toks) k0
  obtain ⟨f0, f1, f2, f3, f4, f5⟩ := I1.fpOk (H' := H1) (b := s1.heap.objs.size) (Nat.le_refl _) (I1.hok.fresh (Nat.le_refl _))
  have hl := p'.isList
  obtain ⟨ol, hol, _⟩ := id hl
  have hne : a ≠ s1.heap.objs.size := Nat.ne_of_lt (Heap.lt_size hol)
  have hn : its.toArray.size ≤ sizeLine := by rw [List.size_toArray, ← rv.length]; exact hz
  refine lst_rev (s := { s1 with heap := s1.heap.push (revObj a ((its.toArray.size : Int) - 1)) }) (I1.ok.hd hc) ⟨_, Heap.get?_push_size _ rfl, rfl, rfl⟩ (hl.push _) hne hn fun h' tk acc c hk hS hi => ?_
  have hsz : (s1.heap.push (revObj a ((its.toArray.size : Int) - 1))).objs.size = s1.heap.objs.size + 1 := Heap.size_push ..
  rw [hsz] at hS
  have ea : acc.toList.toArray = acc := by simp
  have hS2 : h'.get? (s1.heap.objs.size + 1) = some { cls := .type "list", dict := none, data := .seq acc.toList.toArray c, slots := #[] } := by rw [ea]; exact hS
  have kp : ∀ b o, s1.heap.get? b = some o → h'.get? b = some o := fun b o e => hk b o (Nat.ne_of_lt (Heap.lt_size e)) (k0 b o e)
  have eg : (EP X pins σ Q) (.ref (s1.heap.objs.size + 1)) { s1 with heap := h', toks := tk } := ⟨.ref _, upd H1 (s1.heap.objs.size + 1) (.lst xs.reverse), I1.laid (t' := tk) kp (Nat.le_succ _) (show ObjOk X.prog X.w _ h' _ (.lst xs.reverse) from ⟨by rw [List.length_reverse]; exact hz, acc.toList, c, vals_rev rv hi, hS2⟩), rfl, q _ (I1.hok.fresh (Nat.le_succ _))⟩
  show (EP X pins σ Q) (.ref (s1.heap.push (revObj a ((its.toArray.size : Int) - 1))).objs.size) { s1 with heap := h', toks := tk }
  rw [hsz]
  exact eg
end Ord

set_option pp.deepTerms false
set_option pp.maxSteps 1500
namespace Ord
open PySem PySem.Spec PyProof.Rows L2 LamX
abbrev niV (ts : List Nat) : List V := ts.map fun t => V.int (t : Nat)
section
variable {P : Program} {w : World} {K : PySem.W.Frag} {mg : Str → Option Value} {base : Heap}
/-- the places are a rising row by every key that the order goes by, as long as one can be -/
def RiseOf (O : Orc P w K mg base) (xs : List V) (pl : List Nat) : Prop := ∀ key, Mir.KeyA O.ans key → pl.length = Mir.longest key xs ∧ pl.Pairwise fun i j => ∀ x y, xs[i]? = some x → xs[j]? = some y → key x < key y
def spRising (P : Program) (w : World) (K : PySem.W.Frag) (mg : Str → Option Value) (base : Heap) : Sp := fun vs H Q _ => ∃ (O : Orc P w K mg base) (a : Addr) (xs : List V) (l : Lg), vs = [.ref a, .ref O.f] ∧
  Row K O.q H a xs ∧ O.Log l H ∧ O.All xs H ∧ xs.length ≤ 100 ∧ l.length + xs.length * Mir.clog (xs.length + 1) ≤ 80000 ∧
  ∀ H' p pl l', KB O.q H H' → H p = none → H' p = some (.lst (niV pl)) → O.Log l' H' → l'.length ≤ l.length + xs.length * Mir.clog (xs.length + 1) → (∀ i ∈ pl, i < xs.length) → pl.Pairwise (· < ·) → RiseOf O xs pl → Q (.ref p) H'
def N_rising : List Str := ["row", "order", "tails", "before", "k", "low", "high", "half", "found", "place"]
theorem sc_rising : FnScope ["row", "order", "tails", "before", "k", "low", "high", "half", "found", "place"] ["row", "order"] (defScope st_rising) := ⟨rfl, rfl, rfl, by decide +kernel, rfl, by decide +kernel, by decide +kernel⟩
theorem ok_rising (d_rising : Df K mg "rising" st_rising ["row", "order"]) (mLen : mg "len" = none) (mList : mg "list" = none) (mRange : mg "range" = none) (mReversed : mg "reversed" = none) : FnOk P w K mg base CX0 4 d_rising.f d_rising.fd ["row", "order"] (spRising P w K mg base) := by
  refine d_rising.F.ok sc_rising (fun vs H Q E h => ?_) (fun cdv A outer s H vs Q E hr h => ?_)
  · obtain ⟨O, a, xs, l, rfl, _⟩ := h
    rfl
  · obtain ⟨O, a, xs, l, rfl, hR, hL, dx, hz, hc, k⟩ := h
    have nd := sc_rising.nd
    refine ⟨_, (pss_cons (ps_set (i := 2) nd rfl (Or.inl rfl) (pe_lst pa_nil))
  (pss_cons (ps_set (i := 3) nd rfl (Or.inl rfl) (pe_lst pa_nil))
  (C8.pss_cut (ps_for PassesOwn.never rfl (pi_range1 (by rfl) mRange (pa_cons (pe_len mLen (pv 0)) pa_nil)) (pg_name (i := 4) nd rfl (Or.inl rfl))
    (pss_cons (ps_set (i := 5) nd rfl (Or.inl rfl) pe_int)
  (pss_cons (ps_set (i := 6) nd rfl (Or.inl rfl) (pe_len mLen (pv 2)))
  (C8.pss_cut (ps_while PassesOwn.never (pt_cmpR op_lt (pv 5) (pv 6) (nomark _))
    (pss_cons (ps_set (i := 7) nd rfl (Or.inl rfl) (pe_op op_fdivE (pe_op op_addE (pv 5) (pv 6)) pe_int))
  (pss_one (ps_if (pt_cmpR op_lt (pe_callV O.run (hr.mono (by omega)) (pa_cons (pe_ix ix_list (pv 0) (pe_ix ix_list (pv 2) (pv 7) (fun _ _ => rfl)) (fun _ _ => rfl)) (pa_cons (pe_ix ix_list (pv 0) (pv 4) (fun _ _ => rfl)) pa_nil)) (i := 1)) pe_int (nomark _))
    (pss_one (ps_set (i := 5) nd rfl (Or.inl rfl) (pe_op op_addE (pv 7) pe_int)))
    (pss_one (ps_set (i := 6) nd rfl (Or.inl rfl) (pv 7)))))))
  (pss_cons (ps_expr (pe_bm PySem.F.plainAttrs_list PySem.F.slot_list_append PySem.F.type_list_append mt_append (pv 3) (pa_cons (pe_ix ix_list (pe_op op_cat (pe_lst (pa_cons (pe_un un_neg pe_int) pa_nil)) (pv 2)) (pv 5) (fun _ _ => rfl)) pa_nil)))
  (pss_one (ps_set (i := 2) nd rfl (Or.inl rfl) (pe_op op_cat (pe_op op_cat (pe_slice sl_list (pv 2) po_none (po_some (pv 5))) (pe_lst (pa_cons (pv 4) pa_nil))) (pe_slice sl_list (pv 2) (po_some (pe_op op_addE (pv 5) pe_int)) po_none)))))))))
  (pss_cons (ps_set (i := 8) nd rfl (Or.inl rfl) (pe_lst pa_nil))
  (pss_cons (ps_set (i := 9) nd rfl (Or.inl rfl) (pe_ix ix_list (pe_op op_cat (pe_lst (pa_cons (pe_un un_neg pe_int) pa_nil)) (pv 2)) (pe_un un_neg pe_int) (fun _ _ => rfl)))
  (pss_cons (ps_while PassesOwn.never (pt_cmpR op_ge (pv 9) pe_int (nomark _))
    (pss_cons (ps_expr (pe_bm PySem.F.plainAttrs_list PySem.F.slot_list_append PySem.F.type_list_append mt_append (pv 8) (pa_cons (pv 9) pa_nil)))
  (pss_one (ps_set (i := 9) nd rfl (Or.inl rfl) (pe_ix ix_list (pv 3) (pv 9) (fun _ _ => rfl))))))
  (pss_one (ps_ret (pe_lstRev (K := K) rfl (by rfl) mList (by rfl) mReversed (pv 8)))))))))), ?_⟩
    obtain ⟨C, eC⟩ : ∃ C, C = Mir.clog (xs.length + 1) := ⟨_, rfl⟩
    rw [← eC] at hc k
    refine ⟨Nat.zero_le _, fun p0 n0 => ?_⟩
    refine ⟨Nat.zero_le _, fun pb nb => ?_⟩
    have nbH : H pb = none := upd_none nb
    have pbq : pb ≠ O.q := Orc.nq hL nbH
    have kb0 : KB O.q H (upd (upd H p0 (.lst [])) pb (.lst [])) := (KB.new n0).trans (KB.new nb)
    have hL0 := Orc.new (o := .lst []) (Orc.new (o := .lst []) hL n0) nb
    obtain ⟨Inv, eInv⟩ : ∃ Inv : Nat → L2.St → Hp → Prop, Inv = fun i σ H' => ∃ (pt : Addr) (v4 v5 v6 v7 : Option V) (tails : List Nat) (before : List Int) (l' : Lg), σ = [some (.ref a), some (.ref O.f), some (.ref pt), some (.ref pb), v4, v5, v6, v7, none, none] ∧ KB O.q H H' ∧ H pt = none ∧ pt ≠ pb ∧ H' pt = some (.lst (niV tails)) ∧ H' pb = some (.lst (before.map V.int)) ∧ O.Log l' H' ∧
      l'.length ≤ l.length + i * C ∧ tails.length ≤ i ∧ (∀ t ∈ tails, t < i) ∧ before.length = i ∧ (∀ (j : Nat) (b : Int), before[j]? = some b → b = -1 ∨ ∃ u : Nat, b = (u : Int) ∧ u < j) ∧ ∀ key, Mir.KeyA O.ans key → Mir.Pat key (Mir.mdl key (xs.take i)) tails before := ⟨_, rfl⟩
    refine ⟨Inv xs.length, ?_, fun σ' H1 hM => ?_⟩
    · refine ⟨_, rfl, a, xs, rfl, .inl (hR.kb kb0).1, (xs.length : Int), rfl, by omega, by omega, ?_⟩
      refine for_range (lo := 0) (n := (xs.length : Int).toNat) Inv (by
        rw [eInv]
        exact ⟨p0, none, none, none, none, [], [], l, rfl, kb0, n0, ne_of_none upd_same nb, kn nb upd_same, upd_same, hL0, by omega, Nat.zero_le _, (fun t h => by cases h), rfl, (fun j b h => by simp at h), fun key A => Mir.Pat.nil⟩) ?_ (fun σ H' h => by rwa [Int.toNat_natCast] at h)
      intro i σ H1 hi hI
      rw [eInv] at hI
      obtain ⟨pt, v4, v5, v6, v7, tails, before, l', rfl, kb, npt, ptb, hpt, hpb, hL', hl, htl, htm, hbl, hbm, hP⟩ := hI
      rw [show ((0 : Int) + (i : Nat)) = ((i : Nat) : Int) from Int.zero_add _]
      have hi' : i < xs.length := by omega
      have ptq : pt ≠ O.q := Orc.nq hL npt
      obtain ⟨e, ee⟩ : ∃ e, xs[i]? = some e := ⟨_, List.getElem?_eq_getElem hi'⟩
      have hem : e ∈ xs := List.mem_of_getElem? ee
      have m1 : (i + 1) * C = i * C + C := Nat.succ_mul i C
      have m2 : (i + 1) * C ≤ xs.length * C := Nat.mul_le_mul_right C hi'
      obtain ⟨ts, ets⟩ : ∃ ts : List V, ts = tails.map fun t => (xs[t]?).getD .non := ⟨_, rfl⟩
      have tsl : ts.length = tails.length := by rw [ets, List.length_map]
      have tsg : ∀ (p t : Nat), tails[p]? = some t → ∃ y, ts[p]? = some y ∧ xs[t]? = some y := fun p t h => by
        obtain ⟨y, ey⟩ : ∃ y, xs[t]? = some y := ⟨_, List.getElem?_eq_getElem (by have := htm t (List.mem_of_getElem? h); omega)⟩
        exact ⟨y, by rw [ets, List.getElem?_map, h]; show some ((xs[t]?).getD .non) = _; rw [ey]; rfl, ey⟩
      have tm : ∀ z ∈ ts, z ∈ xs := fun z hz => by
        obtain ⟨j, ej⟩ := List.mem_iff_getElem?.mp hz
        obtain ⟨t, et⟩ : ∃ t, tails[j]? = some t := ⟨_, List.getElem?_eq_getElem (by have := (List.getElem?_eq_some_iff.mp ej).1; omega)⟩
        obtain ⟨y, h1, h2⟩ := tsg j t et
        rw [h1] at ej
        rw [← Option.some.inj ej]
        exact List.mem_of_getElem? h2
      obtain ⟨bs, ebs⟩ : ∃ bs, bs = Mir.bsr (fun i => decide (i < 0)) O.ans ts e ts.length 0 ts.length l' := ⟨_, rfl⟩
      have sp := Mir.bsr_spec (fun i => decide (i < 0)) O.ans ts e ts.length 0 ts.length l' (Nat.zero_le _) (Nat.le_refl _) (by omega)
      rw [← ebs] at sp
      have hSq := (hR.kb kb).1
      refine ⟨_, rfl, pt, niV tails, rfl, .inl (SqL.of hpt), ?_⟩
      -- the search
      refine ⟨fun σ' H' => ∃ (v6 v7 : Option V), σ' = [some (.ref a), some (.ref O.f), some (.ref pt), some (.ref pb), some (.int (i : Nat)), some (.int (bs.1 : Nat)), v6, v7, none, none] ∧ KB O.q H1 H' ∧ O.Log bs.2 H', ?_, fun σ' H2 hM => ?_⟩
      · refine ⟨fun m σ H' => ∃ (low high : Nat) (v7 : Option V) (l2 : Lg), σ = [some (.ref a), some (.ref O.f), some (.ref pt), some (.ref pb), some (.int (i : Nat)), some (.int (low : Nat)), some (.int (high : Nat)), v7, none, none] ∧ m = high - low ∧ low ≤ high ∧ high ≤ ts.length ∧ KB O.q H1 H' ∧ O.Log l2 H' ∧ l2.length + m ≤ l'.length + ts.length ∧
          ∃ f, high - low ≤ f ∧ Mir.bsr (fun i => decide (i < 0)) O.ans ts e ts.length 0 ts.length l' = Mir.bsr (fun i => decide (i < 0)) O.ans ts e f low high l2, ⟨_, 0, ts.length, v7, l', by rw [tsl]; show _ = _; simp [niV], rfl, Nat.zero_le _, Nat.le_refl _, KB.refl _ _, hL', by omega, ts.length, by omega, rfl⟩, ?_⟩
        rintro m σ H' ⟨low, high, v7, l2, rfl, rfl, h1, h2, kb1, hL2, hl2, f, hf, eq⟩
        refine ⟨_, rfl, _, rfl, _, _, rfl, rfl, _, rfl, ?_⟩
        refine iteD (fun hlt => ?_) (fun hlt => ?_)
        · have hlt' : low < high := by omega
          obtain ⟨f', ef⟩ : ∃ f', f = f' + 1 := ⟨f - 1, by omega⟩
          obtain ⟨t, et⟩ : ∃ t, tails[(low + high) / 2]? = some t := ⟨_, List.getElem?_eq_getElem (by omega)⟩
          obtain ⟨y, ey, ey2⟩ := tsg _ t et
          rw [ef, Mir.bsr_step _ O.ans l2 hlt' ey] at eq
          refine ⟨_, fun _ _ h => h, ?_⟩
          have hpt2 := kb1.keep _ _ ptq hpt
          have kbT := kb.trans kb1
          have hS2 := (hR.kb kbT).1
          have ent : (niV tails)[(low + high) / 2]? = some (.int (t : Nat)) := by rw [List.getElem?_map, et]; rfl
          refine ⟨_, rfl, _, rfl, _, _, _, rfl, rfl, rfl, _, _, (((low + high) / 2 : Nat) : Int), rfl, rfl, ⟨by decide, by decide⟩, by show (((low + high) / 2 : Nat) : Int) = ((low : Int) + (high : Int)) / 2; omega, ?_⟩
          refine ⟨rfl, O.isf hL2, _, rfl, _, rfl, _, rfl, pt, niV tails, _, .int (t : Nat), rfl, rfl, SqL.of hpt2, atI_nat ent, a, xs, _, y, rfl, rfl, hS2, atI_nat ey2, _, rfl, _, rfl, a, xs, _, e, rfl, rfl, hS2, atI_nat ee, O.isf hL2, y, e, l2, rfl, hL2, by omega, (dx.tk kbT.tk).get ey2, (dx.tk kbT.tk) e hem, fun H3 kb2 hL3 => ?_⟩
          refine ⟨_, _, rfl, rfl, _, rfl, ?_⟩
          refine iteD (fun hq => ?_) (fun hq => ?_)
          · rw [if_pos (show decide (O.ans l2 y e < 0) = true from decide_eq_true hq)] at eq
            refine ⟨_, rfl, _, _, ((((low + high) / 2 + 1 : Nat)) : Int), rfl, rfl, rfl, ?_⟩
            exact ⟨_, by omega, _, high, _, _, rfl, rfl, by omega, h2, kb1.trans kb2, hL3, by rw [List.length_append, List.length_singleton]; omega, f', by omega, eq⟩
          · rw [if_neg (by rw [show decide (O.ans l2 y e < 0) = false from decide_eq_false hq]; exact Bool.false_ne_true)] at eq
            refine ⟨_, rfl, ?_⟩
            exact ⟨_, by omega, low, _, _, _, rfl, rfl, by omega, by omega, kb1.trans kb2, hL3, by rw [List.length_append, List.length_singleton]; omega, f', by omega, eq⟩
        · rw [Mir.bsr_done _ O.ans ts e f l2 (by omega)] at eq
          have eq2 : bs = (low, l2) := ebs.trans eq
          rw [eq2]
          exact ⟨_, _, rfl, kb1, hL2⟩
      obtain ⟨v6', v7', rfl, kb1, hL2⟩ := hM
      have kbT := kb.trans kb1
      have hpt2 := kb1.keep _ _ ptq hpt
      have hpb2 := kb1.keep _ _ pbq hpb
      have sp2 := sp.2.1
      have sp4 := sp.2.2.2.1
      rw [Nat.sub_zero] at sp4
      have cm1 : Mir.clog (ts.length + 1) ≤ C := by rw [eC]; exact Mir.clog_mono (by omega)
      have lnv : (niV tails).length = tails.length := List.length_map ..
      obtain ⟨lo, elo⟩ : ∃ lo, lo = bs.1 := ⟨_, rfl⟩
      rw [← elo] at sp2 ⊢
      obtain ⟨b, hb0, hb1, hbA⟩ : ∃ b : Int, (lo = 0 → b = -1) ∧ (∀ t, 0 < lo → tails[lo - 1]? = some t → b = (t : Int)) ∧ ([V.int (-1)] ++ niV tails)[lo]? = some (.int b) := by
        rcases Nat.eq_zero_or_pos lo with z | z
        · exact ⟨-1, fun _ => rfl, fun t h => by omega, by rw [z]; rfl⟩
        · obtain ⟨u, hu⟩ : ∃ u, lo = u + 1 := ⟨lo - 1, by omega⟩
          obtain ⟨t, et⟩ : ∃ t, tails[u]? = some t := ⟨_, List.getElem?_eq_getElem (by omega)⟩
          refine ⟨(t : Int), fun h => by omega, fun t' _ h => ?_, ?_⟩
          · rw [show lo - 1 = u by omega, et] at h
            rw [Option.some.inj h]
          · rw [hu, List.getElem?_append_right (by simp)]
            show (niV tails)[u + 1 - 1]? = _
            rw [Nat.add_sub_cancel, List.getElem?_map, et]
            rfl
      -- before.append(([-1] + tails)[low])
      refine ⟨_, rfl, .inl ⟨rfl, _, SqL.of hpb2⟩, _, rfl, by show 1 ≤ sizeLine; decide, fun p1 n1 => ?_⟩
      refine ⟨_, rfl, p1, pt, [.int (-1)], niV tails, rfl, rfl, upd_same, kn n1 hpt2, z1000 (by rw [lnv]; show 1 + tails.length ≤ 1000; omega), fun p2 n2 => ?_⟩
      refine ⟨_, rfl, p2, _, _, .int b, rfl, rfl, SqL.of upd_same, atI_nat hbA, pb, before.map V.int, .int b, rfl, rfl, kn n2 (kn n1 hpb2), small1000 (by rw [List.length_map]; omega), ?_⟩
      obtain ⟨H3, e3⟩ : ∃ H3, H3 = upd (upd (upd H2 p1 (.lst [.int (-1)])) p2 (.lst ([.int (-1)] ++ niV tails))) pb (.lst (before.map V.int ++ [.int b])) := ⟨_, rfl⟩
      have kb3 : KB O.q H H3 := by rw [e3]; exact ((kbT.trans (KB.new n1)).trans (KB.new n2)).wr nbH
      have hL3 : O.Log bs.2 H3 := by rw [e3]; exact Orc.wr (Orc.new (o := .lst ([.int (-1)] ++ niV tails)) (Orc.new (o := .lst [.int (-1)]) hL2 n1) n2) (kn n2 (kn n1 hpb2)) nf_lst pbq
      have hpt3 : H3 pt = some (.lst (niV tails)) := by rw [e3, upd_ne ptb]; exact kn n2 (kn n1 hpt2)
      have hpb3 : H3 pb = some (.lst ((before ++ [b]).map V.int)) := by rw [e3, upd_same, List.map_append]; rfl
      rw [← e3]
      clear e3
      -- tails = tails[:low] + [k] + tails[low + 1:]
      have cx : cutV (niV tails) none (some (lo : Int)) = (niV tails).take lo := cut_to1 (niV tails) lo
      have cy : cutV (niV tails) (some ((lo + 1 : Nat) : Int)) none = (niV tails).drop (lo + 1) := cut_from1 (niV tails) (lo + 1)
      have l1 : ((niV tails).take lo).length = lo := by rw [List.length_take, lnv]; omega
      have l2 : ((niV tails).drop (lo + 1)).length = tails.length - (lo + 1) := by rw [List.length_drop, lnv]
      refine ⟨_, rfl, _, rfl, _, rfl, pt, niV tails, rfl, SqL.of hpt3, fun p3 n3 => ?_⟩
      rw [cx]
      refine ⟨_, rfl, by show 1 ≤ sizeLine; decide, fun p4 n4 => ?_⟩
      refine ⟨p3, p4, _, [.int (i : Nat)], rfl, rfl, kn n4 upd_same, upd_same, z1000 (by rw [l1]; show lo + 1 ≤ 1000; omega), fun p5 n5 => ?_⟩
      refine ⟨_, rfl, _, rfl, _, _, ((lo + 1 : Nat) : Int), rfl, rfl, by show ((lo + 1 : Nat) : Int) = (lo : Int) + 1; omega, _, rfl, pt, niV tails, rfl, SqL.of (kn n5 (kn n4 (kn n3 hpt3))), fun p6 n6 => ?_⟩
      rw [cy]
      refine ⟨p5, p6, _, _, rfl, rfl, kn n6 upd_same, upd_same, z1000 (by rw [List.length_append, l1, l2, List.length_singleton]; omega), fun p7 n7 => ?_⟩
      have ep : (niV tails).take lo ++ [V.int (i : Nat)] ++ (niV tails).drop (lo + 1) = niV (Mir.putP tails lo i) := by
        unfold Mir.putP
        simp [niV, List.map_take, List.map_drop]
      rw [ep]
      have kb4 := ((((KB.new (q := O.q) (o := .lst ((niV tails).take lo)) n3).trans (KB.new (o := .lst [.int (i : Nat)]) n4)).trans (KB.new (o := .lst ((niV tails).take lo ++ [.int (i : Nat)])) n5)).trans (KB.new (o := .lst ((niV tails).drop (lo + 1))) n6)).trans (KB.new (o := .lst (niV (Mir.putP tails lo i))) n7)
      have hL4 := Orc.new (o := .lst (niV (Mir.putP tails lo i))) (Orc.new (o := .lst ((niV tails).drop (lo + 1))) (Orc.new (o := .lst ((niV tails).take lo ++ [.int (i : Nat)])) (Orc.new (o := .lst [.int (i : Nat)]) (Orc.new (o := .lst ((niV tails).take lo)) hL3 n3) n4) n5) n6) n7
      have n7' : H3 p7 = none := upd_none (upd_none (upd_none (upd_none n7)))
      have hpb4 := kb4.keep _ _ pbq hpb3
      rw [eInv]
      refine ⟨p7, _, _, _, _, Mir.putP tails lo i, before ++ [b], bs.2, rfl, kb3.trans kb4, kb3.free (Orc.nq hL3 n7') n7', ne_of_none hpb3 n7' |>.symm, upd_same, hpb4, hL4, by rw [m1]; omega, by rw [Mir.putP_len (by omega)]; omega, fun t ht => ?_, by rw [List.length_append, hbl, List.length_singleton], fun j c h => ?_, fun key A => ?_⟩
      · obtain ⟨p, ep⟩ := List.mem_iff_getElem?.mp ht
        rcases Mir.putP_get (by omega) ep with ⟨_, q⟩ | ⟨_, q⟩
        · omega
        · have := htm t (List.mem_of_getElem? q)
          omega
      · rcases Mir.get_snoc h with h | ⟨hj, hp⟩
        · exact hbm j c h
        · rcases Nat.eq_zero_or_pos lo with z | z
          · exact .inl (by rw [hp, hb0 z])
          · obtain ⟨t, et⟩ : ∃ t, tails[lo - 1]? = some t := ⟨_, List.getElem?_eq_getElem (by omega)⟩
            have := htm t (List.mem_of_getElem? et)
            exact .inr ⟨t, by rw [hp, hb1 t z et], by omega⟩
      · have P := hP key A
        have et : xs.take (i + 1) = xs.take i ++ [e] := by rw [List.take_add_one, ee]; rfl
        have lt : (xs.take i).length = i := by rw [List.length_take]; omega
        have ml : (Mir.mdl key (xs.take i)).length = i := by rw [Mir.mdl_len, lt]
        have mel : ∀ (t : Nat) (y : V) (c : Nat), (Mir.mdl key (xs.take i))[t]? = some (y, c) → xs[t]? = some y := fun t y c h => by
          have h1 := Mir.mdl_el h
          have h2 : t < i := by have := (List.getElem?_eq_some_iff.mp h1).1; omega
          rw [List.getElem?_take, if_pos h2] at h1
          exact h1
        have hs : Mir.Srt key ts := List.pairwise_iff_getElem.mpr fun p q hp hq hpq => by
          obtain ⟨t, ht⟩ : ∃ t, tails[p]? = some t := ⟨_, List.getElem?_eq_getElem (by omega)⟩
          obtain ⟨u, hu⟩ : ∃ t, tails[q]? = some t := ⟨_, List.getElem?_eq_getElem (by omega)⟩
          obtain ⟨y, hy1, hy2⟩ := tsg p t ht
          obtain ⟨z, hz1, hz2⟩ := tsg q u hu
          obtain ⟨y', hy'⟩ := P.cls p t ht
          obtain ⟨z', hz'⟩ := P.cls q u hu
          have a1 := mel t y' _ hy'
          have a2 := mel u z' _ hz'
          rw [hy2] at a1
          rw [hz2] at a2
          have h3 := P.inc p q t u y' z' _ _ hpq ht hu hy' hz'
          have b1 : ts[p] = y := Option.some.inj (by rw [← hy1, List.getElem?_eq_getElem hp])
          have b2 : ts[q] = z := Option.some.inj (by rw [← hz1, List.getElem?_eq_getElem hq])
          rw [b1, b2, Option.some.inj a1, Option.some.inj a2]
          omega
        have fd := Mir.bsr_find (fun i => decide (i < 0)) O.ans ts e (ts.filter fun x => decide (key x < key e)).length (List.length_filter_le _ _) (fun l i x hx => by
          rw [← Mir.cut_place hs (fun z => decide (z < key e)) (fun a b hab hb => decide_eq_true (Int.lt_of_le_of_lt hab (of_decide_eq_true hb))) i x hx, decide_eq_true_iff, decide_eq_true_iff]
          exact A.neg l x e) ts.length 0 ts.length l' (Nat.zero_le _) (List.length_filter_le _ _) (Nat.le_refl _) (by omega)
        rw [← ebs, ← elo] at fd
        rw [et, Mir.mdl_snoc, show Mir.putP tails lo i = Mir.putP tails lo (Mir.mdl key (xs.take i)).length by rw [ml]]
        refine P.step e (by omega) (fun p t y c h1 h2 => ?_) hb0 hb1 (by rw [hbl, ml])
        obtain ⟨y', hy1, hy2⟩ := tsg p t h1
        have a1 := mel t y c h2
        rw [hy2] at a1
        have cp := Mir.cut_place hs (fun z => decide (z < key e)) (fun a b hab hb => decide_eq_true (Int.lt_of_le_of_lt hab (of_decide_eq_true hb))) p y' hy1
        rw [decide_eq_true_iff, ← fd, Option.some.inj a1] at cp
        exact cp
    rw [eInv] at hM
    obtain ⟨pt, v4, v5, v6, v7, tails, before, l', rfl, kb, npt, ptb, hpt, hpb, hL', hl, htl, htm, hbl, hbm, hP⟩ := hM
    rw [List.take_length] at hP
    clear eInv Inv
    -- found = []
    refine ⟨Nat.zero_le _, fun pf nf => ?_⟩
    have nfH : H pf = none := kb.free (Orc.nq hL' nf) nf
    have pfq : pf ≠ O.q := Orc.nq hL' nf
    have pbf : pb ≠ pf := ne_of_none hpb nf
    have lnv : (niV tails).length = tails.length := List.length_map ..
    -- place
    obtain ⟨b, hbA, hbr⟩ : ∃ b : Int, atI ([V.int (-1)] ++ niV tails) (-1) = some (.int b) ∧ ((tails = [] ∧ b = -1) ∨ ∃ t, tails.getLast? = some t ∧ b = (t : Int)) := by
      rcases List.eq_nil_or_concat tails with z | ⟨r, t, z⟩
      · exact ⟨-1, by rw [z]; exact atI_last [] _, .inl ⟨z, rfl⟩⟩
      · rw [List.concat_eq_append] at z
        refine ⟨(t : Int), ?_, .inr ⟨t, by rw [z]; simp, rfl⟩⟩
        have e : [V.int (-1)] ++ niV tails = ([V.int (-1)] ++ niV r) ++ [.int (t : Nat)] := by rw [z]; simp [niV]
        rw [e]
        exact atI_last _ _
    refine ⟨_, rfl, by show 1 ≤ sizeLine; decide, fun p1 n1 => ?_⟩
    refine ⟨_, rfl, p1, pt, [.int (-1)], niV tails, rfl, rfl, upd_same, kn n1 (kn nf hpt), z1000 (by rw [lnv]; show 1 + tails.length ≤ 1000; omega), fun p2 n2 => ?_⟩
    refine ⟨_, rfl, p2, _, _, .int b, rfl, rfl, SqL.of upd_same, hbA, ?_⟩
    obtain ⟨H2, e2⟩ : ∃ H2, H2 = upd (upd (upd H1 pf (.lst [])) p1 (.lst [.int (-1)])) p2 (.lst ([.int (-1)] ++ niV tails)) := ⟨_, rfl⟩
    have kb2 : KB O.q H H2 := by rw [e2]; exact ((kb.trans (KB.new nf)).trans (KB.new n1)).trans (KB.new n2)
    have hL2 : O.Log l' H2 := by rw [e2]; exact Orc.new (Orc.new (Orc.new hL' nf) n1) n2
    have hpf2 : H2 pf = some (.lst (niV [])) := by rw [e2]; exact kn n2 (kn n1 upd_same)
    have hpb2 : H2 pb = some (.lst (before.map V.int)) := by rw [e2]; exact kn n2 (kn n1 (kn nf hpb))
    rw [← e2]
    clear e2
    -- the chain
    refine ⟨fun m σ H' => ∃ (pl : Int) (fs : List Nat), σ = [some (.ref a), some (.ref O.f), some (.ref pt), some (.ref pb), v4, v5, v6, v7, some (.ref pf), some (.int pl)] ∧ KB O.q H H' ∧ H' pf = some (.lst (niV fs)) ∧ H' pb = some (.lst (before.map V.int)) ∧ O.Log l' H' ∧ (pl = -1 ∨ ∃ u : Nat, pl = (u : Int) ∧ u < xs.length ∧ ∀ t ∈ fs, u < t) ∧ (∀ t ∈ fs, t < xs.length) ∧ fs.Pairwise (fun i j => j < i) ∧ m = (pl + 1).toNat ∧ fs.length + m ≤ xs.length ∧
      ∀ key, Mir.KeyA O.ans key → ∃ c, fs.length + c = tails.length ∧ (c = 0 → pl = -1) ∧ (0 < c → ∃ (u : Nat) (x : V), pl = (u : Int) ∧ (Mir.mdl key xs)[u]? = some (x, c) ∧ ∀ t ∈ fs, ∀ y, xs[t]? = some y → key x < key y) ∧ fs.Pairwise fun i j => ∀ x y, xs[i]? = some x → xs[j]? = some y → key y < key x,
      ⟨_, b, [], rfl, kb2, hpf2, hpb2, hL2, ?_, (fun t h => by cases h), List.Pairwise.nil, rfl, ?_, fun key A => ⟨tails.length, by simp, fun h => ?_, fun h => ?_, List.Pairwise.nil⟩⟩, ?_⟩
    · rcases hbr with ⟨_, z⟩ | ⟨t, ht, z⟩
      · exact .inl z
      · exact .inr ⟨t, z, htm t (List.mem_of_getLast? ht), fun u h => by cases h⟩
    · rcases hbr with ⟨_, z⟩ | ⟨t, ht, z⟩
      · rw [z]; simp
      · have := htm t (List.mem_of_getLast? ht)
        rw [z, List.length_nil]
        omega
    · rcases hbr with ⟨_, z⟩ | ⟨t, ht, z⟩
      · exact z
      · rw [List.length_eq_zero_iff.mp h] at ht
        cases ht
    · rcases hbr with ⟨z, _⟩ | ⟨t, ht, z⟩
      · rw [z] at h
        exact absurd h (by simp)
      · have ht2 := ht
        rw [List.getLast?_eq_getElem?] at ht2
        obtain ⟨x, hx⟩ := (hP key A).cls _ t ht2
        exact ⟨t, x, z, by rw [hx, show tails.length - 1 + 1 = tails.length by omega], fun u hu => by cases hu⟩
    rintro m σ H' ⟨pl, fs, rfl, kb3, hpf, hpb3, hL3, hpl, hfm, hfp, hm, hfl, hK⟩
    refine ⟨_, rfl, _, _, rfl, rfl, _, rfl, ?_⟩
    refine iteD (fun hge => ?_) (fun hge => ?_)
    · have hge' : (0 : Int) ≤ pl := hge
      obtain ⟨u, hu, hun, hut⟩ : ∃ u : Nat, pl = (u : Int) ∧ u < xs.length ∧ ∀ t ∈ fs, u < t := by
        rcases hpl with z | z
        · omega
        · exact z
      subst hu
      obtain ⟨b', eb'⟩ : ∃ b', before[u]? = some b' := ⟨_, List.getElem?_eq_getElem (by omega)⟩
      have hb' := hbm u b' eb'
      refine ⟨_, fun _ _ h => h, ?_⟩
      refine ⟨_, rfl, .inl ⟨rfl, _, SqL.of hpf⟩, _, rfl, pf, niV fs, .int (u : Nat), rfl, rfl, hpf, small1000 (by rw [List.length_map]; omega), ?_⟩
      have hpb4 : upd H' pf (.lst (niV fs ++ [.int (u : Nat)])) pb = some (.lst (before.map V.int)) := (upd_ne pbf).trans hpb3
      refine ⟨_, rfl, _, rfl, pb, before.map V.int, _, .int b', rfl, rfl, SqL.of hpb4, atI_nat (by rw [List.getElem?_map, eb']; rfl), ?_⟩
      refine ⟨_, ?_, b', fs ++ [u], rfl, kb3.wr nfH, by rw [upd_same]; simp [niV], hpb4, Orc.wr hL3 hpf nf_lst pfq, ?_, ?_, ?_, rfl, ?_, fun key A => ?_⟩
      · rcases hb' with z | ⟨i, z, hi⟩ <;> omega
      · rcases hb' with z | ⟨i, z, hi⟩
        · exact .inl z
        · refine .inr ⟨i, z, by omega, fun t ht => ?_⟩
          rcases List.mem_append.mp ht with q | q
          · have := hut t q; omega
          · rw [List.mem_singleton.mp q]; exact hi
      · intro t ht
        rcases List.mem_append.mp ht with q | q
        · exact hfm t q
        · rw [List.mem_singleton.mp q]; exact hun
      · refine List.pairwise_append.mpr ⟨hfp, List.pairwise_singleton _ _, fun t ht v hv => ?_⟩
        rw [List.mem_singleton.mp hv]
        exact hut t ht
      · rw [List.length_append, List.length_singleton]
        rcases hb' with z | ⟨i, z, hi⟩ <;> omega
      · obtain ⟨c, c1, c2, c3, c4⟩ := hK key A
        rcases Nat.eq_zero_or_pos c with z | z
        · have := c2 z; omega
        obtain ⟨u', x, hu', hx, hlt⟩ := c3 z
        obtain rfl : u = u' := by omega
        have hxu : xs[u]? = some x := Mir.mdl_el hx
        obtain ⟨f1, f2⟩ := (hP key A).bef u x c hx
        refine ⟨c - 1, by rw [List.length_append, List.length_singleton]; omega, fun e => ?_, fun e => ?_, List.pairwise_append.mpr ⟨c4, List.pairwise_singleton _ _, fun t ht v hv y z h1 h2 => ?_⟩⟩
        · have h := f1 (by omega)
          rw [eb'] at h
          exact Option.some.inj h
        · obtain ⟨i, y, h1, h2, h3, h4⟩ := f2 (by omega)
          rw [eb'] at h1
          refine ⟨i, y, Option.some.inj h1, h3, fun t ht v hv => ?_⟩
          rcases List.mem_append.mp ht with q | q
          · have := hlt t q v hv
            omega
          · rw [List.mem_singleton.mp q, hxu] at hv
            rw [← Option.some.inj hv]
            exact h4
        · rw [List.mem_singleton.mp hv, hxu] at h2
          rw [← Option.some.inj h2]
          exact hlt t ht y h1
    · have hlt : ¬ (0 : Int) ≤ pl := hge
      refine ⟨_, rfl, pf, niV fs, rfl, SqL.of hpf, fun p np => ?_⟩
      have er : (niV fs).reverse = niV fs.reverse := (List.map_reverse ..).symm
      rw [er]
      refine k _ p fs.reverse l' (kb3.trans (KB.new np)) (kb3.free (Orc.nq hL3 np) np) upd_same (Orc.new hL3 np) hl (fun t ht => hfm t (List.mem_reverse.mp ht)) (List.pairwise_reverse.mpr hfp) fun key A => ?_
      obtain ⟨c, c1, c2, c3, c4⟩ := hK key A
      have c0 : c = 0 := by
        rcases Nat.eq_zero_or_pos c with z | z
        · exact z
        · obtain ⟨u, x, hu, _⟩ := c3 z
          omega
      exact ⟨by rw [List.length_reverse, ← (hP key A).longest]; omega, List.pairwise_reverse.mpr (c4.imp fun h x y h1 h2 => h y x h2 h1)⟩
end
end Ord

set_option pp.deepTerms false
set_option pp.maxSteps 1500
namespace Ord
open PySem PySem.Spec PyProof.Rows L2 LamX
section
variable {P : Program} {w : World} {K : PySem.W.Frag} {mg : Str → Option Value} {base : Heap}
theorem nodup_of {c : V → Int × Int} {xs : List V} (h : ∀ (i : Nat) (x : V), xs[i]? = some x → (c x).2 = (i : Int)) : (xs.map c).Nodup := by
  refine List.pairwise_iff_getElem.mpr fun i j hi hj hij e => ?_
  rw [List.length_map] at hi hj
  rw [List.getElem_map, List.getElem_map] at e
  have h1 := h i _ (List.getElem?_eq_getElem hi)
  have h2 := h j _ (List.getElem?_eq_getElem hj)
  rw [e] at h1
  omega
theorem best_rest {c : V → Int × Int} {xs zs r : List V} (hp : (zs ++ r).Perm xs) (hn : (xs.map c).Nodup) : (zs ++ xs.filter fun x => !decide (c x ∈ zs.map c)).Perm xs := by
  have h1 := hp.symm.filter (fun x => !decide (c x ∈ zs.map c))
  have h2 : ((zs ++ r).map c).Nodup := (hp.map c).nodup_iff.mpr hn
  rw [List.map_append] at h2
  have h3 := (List.nodup_append.mp h2).2.2
  have f1 : (zs.filter fun x => !decide (c x ∈ zs.map c)) = [] := List.filter_eq_nil_iff.mpr fun x hx => by
    rw [decide_eq_true (List.mem_map.mpr ⟨x, hx, rfl⟩)]
    exact Bool.false_ne_true
  have f2 : (r.filter fun x => !decide (c x ∈ zs.map c)) = r := List.filter_eq_self.mpr fun x hx => by
    have : ¬ c x ∈ zs.map c := fun z => h3 _ z _ (List.mem_map.mpr ⟨x, hx, rfl⟩) rfl
    rw [decide_eq_false this]
    rfl
  rw [List.filter_append, f1, f2, List.nil_append] at h1
  exact (h1.append_left zs).trans hp
def N_law : List Str := ["_law_script", "_law_row_here", "_law_kept", "_law_asked", "_law_order", "_law_many", "_law_low", "_law_high", "_law_count", "_law_told", "_law_element", "_law_places", "_law_place", "_law_k"]
theorem sc_law : FnScope ["_law_script", "_law_row_here", "_law_kept", "_law_asked", "_law_order", "_law_many", "_law_low", "_law_high", "_law_count", "_law_told", "_law_element", "_law_places", "_law_place", "_law_k"] ["_law_script"] (defScope st_law) := ⟨rfl, rfl, rfl, by decide +kernel, rfl, by decide +kernel, by decide +kernel⟩
def qlam : Str := "law.<locals>.<lambda>"
def spLaw (K : PySem.W.Frag) (Pt : Addr) : Sp := fun vs H Q _ => ∃ (a : Addr) (ns : List Int), vs = [.ref a] ∧ SqL K H a (ns.map V.int) ∧ ns.length ≤ 63 ∧ H Pt = some (.tbl #[]) ∧ ∀ H', Q (.bl true) H'
def spLawF (K : PySem.W.Frag) (Pt : Addr) : Sp := fun vs H Q _ => ∃ (a : Addr) (ns : List Int), vs = [.ref a] ∧ SqF K H a (ns.map V.int) ∧ ns.length ≤ 63 ∧ H Pt = some (.tbl #[]) ∧ ∀ H', Q (.bl true) H'
theorem ok_lawF {c Pt : Addr} (d_law : Df K mg "law" st_law ["_law_script"]) (d_is_heap : Df K mg "is_heap" st_is_heap ["row", "order"]) (d_push : Df K mg "push" st_push ["heap", "new", "order"]) (d_sunk : Df K mg "sunk" st_sunk ["row", "place", "order"]) (d_pop : Df K mg "pop" st_pop ["heap", "order"]) (d_heaped : Df K mg "heaped" st_heaped ["row", "order"]) (d_least : Df K mg "least" st_least ["row", "order"]) (d_paired : Df K mg "paired" st_paired ["one", "other", "order"]) (d_ends : Df K mg "ends" st_ends ["row", "order"]) (d_best : Df K mg "best" st_best ["row", "many", "order"]) (d_nth : Df K mg "nth" st_nth ["row", "k", "order"]) (d_turned_pairs : Df K mg "turned_pairs" st_turned_pairs ["row", "order"]) (d_counted : Df K mg "counted" st_counted ["row", "order"]) (d_rising : Df K mg "rising" st_rising ["row", "order"]) (d_merged : Df K mg "merged" st_merged ["one", "other", "order"]) (d_stable : Df K mg "stable" st_stable ["row", "order"]) (d_upper : Df K mg "upper" st_upper ["row", "key", "order"]) (d__law_cell : Df K mg "_law_cell" st__law_cell ["_law_script", "_law_k"]) (d__law_drawn : Df K mg "_law_drawn" st__law_drawn ["_law_cell_here", "_law_k"]) (d__law_row : Df K mg "_law_row" st__law_row ["_law_script", "_law_start", "_law_many", "_law_spread"]) (d__law_size : Df K mg "_law_size" st__law_size ["_law_script", "_law_most"]) (d__law_lie : Df K mg "_law_lie" st__law_lie ["_law_asked", "_law_script", "_law_one", "_law_other"]) (d__law_alike : Df K mg "_law_alike" st__law_alike ["_law_one", "_law_other"]) (d__law_log : Df K mg "_law_log" st__law_log ["_law_many"]) (d__law_heaps_right : Df K mg "_law_heaps_right" st__law_heaps_right ["_law_row_here", "_law_order", "_law_asked"])
    (mLen : mg "len" = none) (mList : mg "list" = none) (mMin : mg "min" = none) (mMax : mg "max" = none) (mRange : mg "range" = none) (mReversed : mg "reversed" = none) (mAll : mg "all" = none) (mIsi : mg "isinstance" = none) (mBool : mg "bool" = none)
    (TB : TabB base mg c Pt) (hc : d_law.fd.code = .ref c) : FnOk P w K mg base CX0 20 d_law.f d_law.fd ["_law_script"] (spLawF K Pt) := by
  have G__law_cell : FnOk P w K mg base CX0 1 d__law_cell.f d__law_cell.fd ["_law_script", "_law_k"] (spCellK K) := ok_cell d__law_cell mLen
  have G__law_drawn : FnOk P w K mg base CX0 1 d__law_drawn.f d__law_drawn.fd ["_law_cell_here", "_law_k"] spDrawn := ok_drawn d__law_drawn
  have G__law_log : FnOk P w K mg base CX0 1 d__law_log.f d__law_log.fd ["_law_many"] spLog := ok_log d__law_log
  have G__law_row : FnOk P w K mg base CX0 2 d__law_row.f d__law_row.fd ["_law_script", "_law_start", "_law_many", "_law_spread"] (spRowK K) := ok_row d__law_row d__law_cell d__law_drawn mLen mRange
  have G__law_size : FnOk P w K mg base CX0 2 d__law_size.f d__law_size.fd ["_law_script", "_law_most"] (spSizeK K) := ok_size d__law_size d__law_cell d__law_drawn mLen mMin
  have G__law_lie : FnOk P w K mg base CX0 2 d__law_lie.f d__law_lie.fd ["_law_asked", "_law_script", "_law_one", "_law_other"] (spLie K) := ok_lie d__law_lie d__law_cell d__law_drawn mLen
  have G__law_alike : FnOk P w K mg base CX0 1 d__law_alike.f d__law_alike.fd ["_law_one", "_law_other"] (spAlike K) := ok_alike d__law_alike mList
  have G__law_heaps_right : FnOk P w K mg base CX0 6 d__law_heaps_right.f d__law_heaps_right.fd ["_law_row_here", "_law_order", "_law_asked"] (spHeapsR P w K mg base) := ok_heapsR d__law_heaps_right d_is_heap d_push d_sunk d_pop d_heaped d__law_alike d__law_log mLen mList mMax mRange mIsi mBool
  have G_ends : FnOk P w K mg base CX0 5 d_ends.f d_ends.fd ["row", "order"] (spEnds P w K mg base) := ok_ends d_ends d_paired mLen mRange
  have G_least : FnOk P w K mg base CX0 4 d_least.f d_least.fd ["row", "order"] (spLeast P w K mg base) := ok_least d_least
  have G_nth : FnOk P w K mg base CX0 12 d_nth.f d_nth.fd ["row", "k", "order"] (spNth P w K mg base) := ok_nth d_nth d_stable d_merged mLen mList
  have G_best : FnOk P w K mg base CX0 5 d_best.f d_best.fd ["row", "many", "order"] (spBest P w K mg base) := ok_best d_best d_upper mLen
  have G_turned_pairs : FnOk P w K mg base CX0 11 d_turned_pairs.f d_turned_pairs.fd ["row", "order"] (spTurned P w K mg base) := ok_turned d_turned_pairs d_counted mLen mList
  have G_rising : FnOk P w K mg base CX0 4 d_rising.f d_rising.fd ["row", "order"] (spRising P w K mg base) := ok_rising d_rising mLen mList mRange mReversed
  refine Fun.okc d_law.F hc sc_law (fun vs H Q E h => ?_) (fun A outer s H vs Q E hr h => ?_)
  · obtain ⟨a, ns, rfl, _⟩ := h
    rfl
  · obtain ⟨a, ns, rfl, hS, hz, hP, hQ⟩ := h
    have nd := sc_law.nd
    obtain ⟨X, eX⟩ : ∃ X, X = (cxOf CX0 P w K mg base N_law "law" (defScope st_law) d_law.f (.ref c) A outer s H E).nox := ⟨_, rfl⟩
    have un : UniqC X.env.cells := by
      rw [eX]
      exact uniq_cells (by decide +kernel)
    have hfn : ∀ x, X.fn x = true := by
      rw [eX]
      exact fun _ => rfl
    subst eX
    refine ⟨_, (pss_cons (ps_set (i := 1) nd rfl (Or.inl rfl) (pe_cd (d := d__law_row) G__law_row (hr.mono (by decide)) (pa_cons (pv 0) (pa_cons pe_int (pa_cons (pe_cd (d := d__law_size) G__law_size (hr.mono (by decide)) (pa_cons (pv 0) (pa_cons pe_int pa_nil))) (pa_cons pe_int pa_nil))))))
  (pss_cons (ps_set (i := 2) nd rfl (Or.inl rfl) (pe_callTy call_list_of (by rfl) mList (by decide +kernel) (pa_cons (pv 1) pa_nil)))
  (pss_cons (ps_set (i := 3) nd rfl (Or.inr rfl) (pe_lst pa_nil))
  (pss_cons (ps_set (i := 4) nd rfl (Or.inl rfl) (pe_lam (T := [(Pt, qlam)]) (q := qlam) (show ("law.<locals>." : Str) ++ "<lambda>" = qlam by decide +kernel) TB rfl (List.mem_singleton.mpr rfl) (fun p hp _ => by rw [List.mem_singleton.mp hp]) rfl (NdefX.ndef_free (sc := defScope st_law) (fr := ["_law_asked", "_law_script"]) (by decide +kernel))))
  (pss_cons (ps_set (i := 5) nd rfl (Or.inr rfl) (pe_len mLen (pv 1)))
  (pss_cons (ps_if (PW.pt (pw_or (pt_not (pt_val (pe_cdLent (d := d__law_heaps_right) G__law_heaps_right (hr.mono (by decide)) un hfn (pa_cons (pv 1) (pa_cons (pv 4) (pa_cons (pv 3) pa_nil)))))) (pw_or1 (pt_cmpR (op_neD hr.units) (pv 1) (pv 2) (nomark _)))))
    (pss_one (ps_ret pe_bl))
    pss_nil)
  (C8.pss_cut (ps_if (pt_cmpR (op_neD hr.units) (pv 1) (pe_lst pa_nil) (nomark _))
    (pss_cons (ps_expr (pe_bm0 PySem.F.plainAttrs_list PySem.F.slot_list_clear PySem.F.type_list_clear mt_clear (pv 3)))
  (pss_cons (ps_asg (pe_cdLent (d := d_ends) G_ends (hr.mono (by decide)) un hfn (pa_cons (pv 1) (pa_cons (pv 4) pa_nil))) (pg_tup (by rfl) (pgs_cons (pg_name (i := 6) nd rfl (Or.inl rfl)) (pgs_cons (pg_name (i := 7) nd rfl (Or.inl rfl)) pgs_nil))))
  (pss_cons (ps_if (PW.pt (pw_or (pt_cmpR (op_notInD (hu65 hr)) (pv 6) (pv 1) (by rfl)) (pw_or (pt_cmpR (op_notInD (hu65 hr)) (pv 7) (pv 1) (by rfl)) (pw_or1 (pt_cmpR (op_notInD (hu65 hr)) (pe_cdLent (d := d_least) G_least (hr.mono (by decide)) un hfn (pa_cons (pv 1) (pa_cons (pv 4) pa_nil))) (pv 1) (by rfl))))))
    (pss_one (ps_ret pe_bl))
    pss_nil)
  (pss_one (ps_if (PW.pt (pw_or (pt_cmpR op_gt (pe_len mLen (pv 3)) (pe_op op_subE (pe_op op_addE (pe_op op_fdivE (pe_op op_mulE pe_int (pv 5)) pe_int) (pv 5)) pe_int) (nomark _)) (pw_or1 (pt_cmpR (op_notInD (hu65 hr)) (pe_cdLent (d := d_nth) G_nth (hr.mono (by decide)) un hfn (pa_cons (pv 1) (pa_cons (pe_op op_fdivE (pv 5) pe_int) (pa_cons (pv 4) pa_nil)))) (pv 1) (by rfl)))))
    (pss_one (ps_ret pe_bl))
    pss_nil)))))
    pss_nil)
  (pss_cons (ps_expr (pe_bm0 PySem.F.plainAttrs_list PySem.F.slot_list_clear PySem.F.type_list_clear mt_clear (pv 3)))
  (pss_cons (ps_set (i := 8) nd rfl (Or.inl rfl) (pe_op op_modE (pe_cd (d := d__law_drawn) G__law_drawn (hr.mono (by decide)) (pa_cons (pe_cd (d := d__law_cell) G__law_cell (hr.mono (by decide)) (pa_cons (pv 0) (pa_cons pe_int pa_nil))) (pa_cons pe_int pa_nil))) pe_int))
  (pss_cons (ps_set (i := 9) nd rfl (Or.inr rfl) (pe_cdLent (d := d_best) G_best (hr.mono (by decide)) un hfn (pa_cons (pv 1) (pa_cons (pv 8) (pa_cons (pv 4) pa_nil)))))
  (pss_cons (ps_if (PW.pt (pw_or (pt_cmpR op_ne (pe_len mLen (pv 9)) (pe_callB (call_min2 rfl) (by rfl) mMin (by decide +kernel) (pa_cons (pv 8) (pa_cons (pv 5) pa_nil))) (nomark _)) (pw_or1 (pt_cmpR op_gt (pe_len mLen (pv 3)) (pe_op op_mulE (pv 5) (pe_op op_addE (pe_cd (d := d__law_log) G__law_log (hr.mono (by decide)) (pa_cons (pe_op op_addE (pv 8) pe_int) pa_nil)) pe_int)) (nomark _)))))
    (pss_one (ps_ret pe_bl))
    pss_nil)
  (pss_cons (ps_if (pt_not (pt_val (pe_cd (d := d__law_alike) G__law_alike (hr.mono (by decide)) (pa_cons (pe_op op_cat (pv 9) (pe_lc (own := [("_law_element", 10)]) (g := gName 10) rfl nd (pi_list (pv 1)) (blkOk_by (own := [("_law_element", 10)]) (N := N_law) (sc := defScope st_law) (by decide +kernel)) (fun _ _ _ _ _ => pg_name (i := 10) nd rfl (Or.inl rfl)) (fun _ _ _ _ _ => pts_one (pt_cmpR (op_notInDK (K := K) (hu65 hr)) (pv 10) (pv 9) (by rfl))) (fun _ _ _ _ _ => (pv 10)))) (pa_cons (pv 1) pa_nil)))))
    (pss_one (ps_ret pe_bl))
    pss_nil)
  (pss_cons (ps_expr (pe_bm0 PySem.F.plainAttrs_list PySem.F.slot_list_clear PySem.F.type_list_clear mt_clear (pv 3)))
  (pss_cons (ps_if (PW.pt (pw_or (pt_not (pt_chain op_le op_le pe_int (pe_cdLent (d := d_turned_pairs) G_turned_pairs (hr.mono (by decide)) un hfn (pa_cons (pv 1) (pa_cons (pv 4) pa_nil))) (pe_op op_fdivE (pe_op op_mulE (pv 5) (pe_op op_subE (pv 5) pe_int)) pe_int))) (pw_or1 (pt_cmpR op_gt (pe_len mLen (pv 3)) (pe_op op_mulE (pv 5) (pe_cd (d := d__law_log) G__law_log (hr.mono (by decide)) (pa_cons (pv 5) pa_nil))) (nomark _)))))
    (pss_one (ps_ret pe_bl))
    pss_nil)
  (pss_cons (ps_expr (pe_bm0 PySem.F.plainAttrs_list PySem.F.slot_list_clear PySem.F.type_list_clear mt_clear (pv 3)))
  (pss_cons (ps_set (i := 11) nd rfl (Or.inr rfl) (pe_cdLent (d := d_rising) G_rising (hr.mono (by decide)) un hfn (pa_cons (pv 1) (pa_cons (pv 4) pa_nil))))
  (pss_cons (ps_if (PW.pt (pw_or (pt_cmpR op_gt (pe_len mLen (pv 3)) (pe_op op_mulE (pv 5) (pe_cd (d := d__law_log) G__law_log (hr.mono (by decide)) (pa_cons (pe_op op_addE (pv 5) pe_int) pa_nil))) (nomark _)) (pw_or1 (pt_not (pt_val (pe_callB (cr_all rfl) (by rfl) mAll (by decide +kernel) (pa_cons (pe_lc (own := [("_law_place", 12)]) (g := gName 12) rfl nd (pi_list (pv 11)) (blkOk_by (own := [("_law_place", 12)]) (N := N_law) (sc := defScope st_law) (by decide +kernel)) (fun _ _ _ _ _ => pg_name (i := 12) nd rfl (Or.inl rfl)) (fun _ _ _ _ _ => pts_nil) (fun _ _ _ _ _ => (pe_chain op_le op_lt pe_int (pv 12) (pv 5)))) pa_nil)))))))
    (pss_one (ps_ret pe_bl))
    pss_nil)
  (pss_one (ps_ret (pe_and (pe_callB (cr_all rfl) (by rfl) mAll (by decide +kernel) (pa_cons (pe_lc (own := [("_law_k", 13)]) (g := gName 13) rfl nd (pi_range2 (by rfl) mRange (pa_cons pe_int (pa_cons (pe_len mLen (pv 11)) pa_nil))) (blkOk_by (own := [("_law_k", 13)]) (N := N_law) (sc := defScope st_law) (by decide +kernel)) (fun _ _ _ _ _ => pg_name (i := 13) nd rfl (Or.inl rfl)) (fun _ _ _ _ _ => pts_nil) (fun _ _ _ _ _ => (pe_cmpR op_lt (pe_ix (ix_listK (K := K)) (pv 11) (pe_op op_subE (pv 13) pe_int) (fun _ _ => rfl)) (pe_ix (ix_listK (K := K)) (pv 11) (pv 13) (fun _ _ => rfl)) (nomark _)))) pa_nil)) (pe_one (pe_cmpR (op_eqD hr.units) (pv 1) (pv 2) (nomark _))))))))))))))))))))))), ?_⟩
    have hz' : ns.length ≤ 1000 := by omega
    -- the row
    refine ⟨_, rfl, _, rfl, a, ns, 40, rfl, hS.sq, hz', by decide, by decide, fun H2 n s2 hn => ?_⟩
    refine ⟨a, ns, 0, n, 9, rfl, (hS.ek (EK.same s2)).sq, hz', by omega, by decide, by decide, fun H3 rw xs cc s3 nrw hrw hxl hE hpl => ?_⟩
    have s23 := s2.trans s3
    have lx : xs.length ≤ 40 := by omega
    have hnd : (xs.map cc).Nodup := nodup_of fun i x e => (hpl i x e).1
    -- kept, asked
    refine ⟨_, rfl, rw, xs, rfl, .inl (SqL.of hrw), fun kp nkp => ?_⟩
    refine ⟨Nat.zero_le _, fun q nq => ?_⟩
    have sA : Same H3 (upd (upd H3 kp (.lst xs)) q (.lst [])) := (Same.new (o := .lst xs) nkp).trans (Same.new (o := .lst []) nq)
    have sB := s23.trans sA
    have hrwA := sA _ _ hrw
    have hkpA := (Same.new (o := .lst []) nq) _ _ (upd_same (H := H3) (a := kp) (o := .lst xs))
    have hqA : upd (upd H3 kp (.lst xs)) q (.lst []) q = some (.lst []) := upd_same
    have rwq : rw ≠ q := ne_of_none (kn nkp hrw) nq
    have kpq : kp ≠ q := ne_of_none upd_same nq
    have TA : Tabs [(Pt, qlam)] (upd (upd H3 kp (.lst xs)) q (.lst [])) := fun p hp => by rw [List.mem_singleton.mp hp]; exact TabS.nil (sB _ _ hP)
    have hEA := hE.tk (Same.tk sA)
    have hSA := hS.ek (EK.same sB)
    obtain ⟨H6, e6⟩ : ∃ H6, H6 = upd (upd H3 kp (.lst xs)) q (.lst []) := ⟨_, rfl⟩
    rw [← e6] at hrwA hkpA hqA TA hEA hSA ⊢
    clear e6 sB sA nq nkp s23 s3 s2 hS hrw nrw hE hP hpl
    -- the order
    refine ⟨TA, fun f c' pm ctv H8 ext nn T8 f0 f8 c8 => ?_⟩
    have h8 : HeldS K a (ns.map V.int) q f c' _ _ [(rw, xs), (kp, xs)] xs cc [] H8 := ⟨⟨⟨[], ext _ _ hqA lst_tbl, .nil⟩, f8, c8, fun p hp => by
      simp only [List.mem_cons, List.not_mem_nil, or_false] at hp
      rcases hp with z | z <;> rw [z]
      · exact ⟨ext _ _ hrwA lst_tbl, rwq⟩
      · exact ⟨ext _ _ hkpA lst_tbl, kpq⟩, hEA.tk (ExtN.tk ext)⟩, hSA.ext ext⟩
    let O : Orc P w K mg base := orcX f8 ["_law_one", "_law_other"] ["_law_asked", "_law_script"] [some (.ref q), some (.ref a)] (fun l _ _ => Mir.lieI ns (l.length + 1)) (fun x H => El (cnt H) x H) (fun H => SqF K H a (ns.map V.int)) (NdefX.nscope_by (by decide +kernel)) rfl rfl
      (fun us hl => match us, hl with | [_, _], _ => rfl) (fun k h => (h.tk k).now) (fun k h => h.ek k)
      (fun A outer s H0 hr => pe_cd (d := d__law_lie) G__law_lie hr (pa_cons (pv 2) (pa_cons (pv 3) (pa_cons (pv 0) (pa_cons (pv 1) pa_nil)))))
      (fun x y l qs H Q h1 h2 h3 hx dx dy hQ => ⟨_, rfl, _, rfl, _, rfl, _, rfl, q, a, ns, x, y, qs, rfl, h1, by have := h2.length; omega, hx, hz', fun t H' nt s => by have h := hQ t H' nt s; rw [h2.length]; exact h⟩)
    have hClr : O.Clr := fun l H h => by
      obtain ⟨qs, h4, h5, h6⟩ := h.1.clr
      exact ⟨qs, h4, h5, h6, h.2.ek (EK.wr h4 fun w xs z => by cases z)⟩
    have hDom : O.DomE := fun x H h => h
    have domO : ∀ {H : Hp}, Els cc xs H → O.All xs H := fun h x hx => (h x hx).now
    clear hrwA hkpA hqA TA hEA hSA ext nn T8 f0 c8 rwq kpq
    obtain ⟨ob, qn, eob, eqn, ha⟩ := heldS_ex h8
    clear h8
    -- many
    refine ⟨_, rfl, rw, xs, rfl, .inl (SqL.of (ha.1.ls (rw, xs) (by simp)).1), ?_⟩
    -- heaps
    refine ⟨_, rfl, _, rfl, _, rfl, ?_⟩
    intro H9 L
    obtain ⟨qs, hq8, lg8⟩ := ha.1.hq
    refine ⟨O, rw, xs, cc, rfl, L.keep (ha.1.ls (rw, xs) (by simp)).1, (ha.1.ls (rw, xs) (by simp)).2, ⟨L.log (js := [3, 0]) (NdefX.ndef_free (sc := defScope st_law) (fr := ["_law_asked", "_law_script"]) (by decide +kernel)) (NdefX.ndef_fr (sc := defScope st_law) (fr := ["_law_asked", "_law_script"]) (by decide +kernel)) rfl (by have e := ha.1.hf; rw [eob] at e; exact e) (by have e := ha.1.hc; rw [eqn] at e; exact e) hq8 lg8, ha.2.ek (EK.same L.same)⟩, hClr, hDom, ha.1.el.tk (Same.tk L.same), by omega, fun H10 l1 kb hL => ?_⟩
    obtain ⟨⟨_, _, _, hq10⟩, _⟩ := hL
    refine lentQ_of (F := fun H11 => HeldS K a (ns.map V.int) q f c' ob qn [(rw, xs), (kp, xs)] xs cc l1 H11) (ha.lent L kb hq10) fun Z1 hb => ?_
    clear hq10 lg8 hq8 qs L kb ha
    refine ⟨_, rfl, iteF ?_⟩
    refine ⟨_, rfl, _, rfl, _, _, dp_row (SqL.of (hb.1.ls (rw, xs) (by simp)).1) hb.1.el, dp_row (SqL.of (hb.1.ls (kp, xs) (by simp)).1) hb.1.el, shaped_row cc _, shaped_row cc _, _, rfl, ?_⟩
    rw [eqv_row, decide_eq_true rfl]
    refine iteF ?_
    -- if row != []
    obtain ⟨Mid, eMid⟩ : ∃ Mid : L2.St → Hp → Prop, Mid = fun σ H' => ∃ (v6 v7 : Option V) (l' : Lg), σ = [some (.ref a), some (.ref rw), some (.ref kp), some (.ref q), some (.ref f), some (.int (xs.length : Nat)), v6, v7, none, none, none, none, none, none] ∧ HeldS K a (ns.map V.int) q f c' ob qn [(rw, xs), (kp, xs)] xs cc l' H' := ⟨_, rfl⟩
    refine ⟨Mid, ?_, fun σ' Z2 hM => ?_⟩
    · refine ⟨_, rfl, Nat.zero_le _, fun p8 n8 => ?_⟩
      have hb8 := hb.same (Same.new (o := .lst []) n8)
      refine ⟨_, _, dp_row (SqL.of (hb8.1.ls (rw, xs) (by simp)).1) hb8.1.el, .lst (SqL.of upd_same) .nil, shaped_row cc _, shaped_nil, _, rfl, ?_⟩
      rw [show (PyData.list []) = PyData.list ([].map fun x => pd (cc x)) from rfl, eqv_row]
      obtain ⟨Z3, e3⟩ : ∃ Z3, Z3 = upd Z1 p8 (.lst []) := ⟨_, rfl⟩
      rw [← e3] at hb8 ⊢
      clear e3 n8 hb
      by_cases hx0 : xs = []
      · rw [show decide (xs.map (fun x => cc x) = [].map fun x => cc x) = true by rw [hx0]; rfl]
        refine iteF ?_
        rw [eMid]
        exact ⟨_, _, _, rfl, hb8⟩
      rw [decide_eq_false (by simpa using hx0)]
      refine iteT ?_
      have px := List.length_pos_iff.mpr hx0
      obtain ⟨qs0, hq0, lg0⟩ := hb8.1.hq
      refine ⟨_, rfl, .inl ⟨rfl, _, SqL.of hq0⟩, q, qs0, rfl, rfl, hq0, ?_⟩
      have hd1 := hb8.wr (qs := []) .nil
      obtain ⟨Z4, e7⟩ : ∃ Z, Z = upd Z3 q (.lst []) := ⟨_, rfl⟩
      rw [← e7] at hd1 ⊢
      clear e7 hq0 lg0 hb8
      -- ends
      refine ⟨_, rfl, _, rfl, ?_⟩
      intro H9 L
      obtain ⟨qs, hq8, lg8⟩ := hd1.1.hq
      refine ⟨O, rw, xs, [], rfl, Row.of (L.keep (hd1.1.ls (rw, xs) (by simp)).1) (hd1.1.ls (rw, xs) (by simp)).2, ⟨L.log (js := [3, 0]) (NdefX.ndef_free (sc := defScope st_law) (fr := ["_law_asked", "_law_script"]) (by decide +kernel)) (NdefX.ndef_fr (sc := defScope st_law) (fr := ["_law_asked", "_law_script"]) (by decide +kernel)) rfl (by have e := hd1.1.hf; rw [eob] at e; exact e) (by have e := hd1.1.hc; rw [eqn] at e; exact e) hq8 lg8, hd1.2.ek (EK.same L.same)⟩, domO (hd1.1.el.tk (Same.tk L.same)), DatS.of (hd1.1.el.tk (Same.tk L.same)) xs (fun _ h => h), hx0, by omega, by simp only [List.length_nil]; omega, fun H10 t lo hi l2 kb nt ht hL hlo hhi hl2 _ => ?_⟩
      obtain ⟨⟨_, _, _, hq10⟩, _⟩ := hL
      refine lentQ_of (F := fun H11 => HeldS K a (ns.map V.int) q f c' ob qn [(rw, xs), (kp, xs)] xs cc l2 H11 ∧ H11 t = some (.tup [lo, hi])) ⟨hd1.lent L kb hq10, hd1.1.at3 L kb ht tup_fz⟩ fun Z5 ⟨he, ht2⟩ => ?_
      clear hq10 lg8 hq8 qs L kb hd1 nt ht
      refine ⟨t, _, rfl, SqT.of ht2, rfl, _, _, rfl, _, _, rfl, rfl, ?_⟩
      refine ⟨_, rfl, _, rfl, _, _, dp_el (he.1.el lo hlo).1, dp_row (SqL.of (he.1.ls (rw, xs) (by simp)).1) he.1.el, shaped_pd _, shaped_row cc _, _, rfl, ?_⟩
      rw [any_pd, decide_eq_true (List.mem_map.mpr ⟨_, hlo, rfl⟩)]
      refine iteF ?_
      refine ⟨_, rfl, _, rfl, _, _, dp_el (he.1.el hi hhi).1, dp_row (SqL.of (he.1.ls (rw, xs) (by simp)).1) he.1.el, shaped_pd _, shaped_row cc _, _, rfl, ?_⟩
      rw [any_pd, decide_eq_true (List.mem_map.mpr ⟨_, hhi, rfl⟩)]
      refine iteF ?_
      -- least
      refine ⟨_, rfl, _, rfl, ?_⟩
      intro H9 L
      obtain ⟨qs, hq8, lg8⟩ := he.1.hq
      obtain ⟨x0, r0, exr⟩ : ∃ x0 r0, xs = x0 :: r0 := by
        cases xs with
        | nil => exact absurd rfl hx0
        | cons x0 r0 => exact ⟨x0, r0, rfl⟩
      have lr : xs.length = r0.length + 1 := by rw [exr]; rfl
      refine ⟨O, rw, x0, r0, l2, rfl, by rw [← exr]; exact Row.of (L.keep (he.1.ls (rw, xs) (by simp)).1) (he.1.ls (rw, xs) (by simp)).2, ⟨L.log (js := [3, 0]) (NdefX.ndef_free (sc := defScope st_law) (fr := ["_law_asked", "_law_script"]) (by decide +kernel)) (NdefX.ndef_fr (sc := defScope st_law) (fr := ["_law_asked", "_law_script"]) (by decide +kernel)) rfl (by have e := he.1.hf; rw [eob] at e; exact e) (by have e := he.1.hc; rw [eqn] at e; exact e) hq8 lg8, he.2.ek (EK.same L.same)⟩, by rw [← exr]; exact domO (he.1.el.tk (Same.tk L.same)), by rw [← exr]; exact DatS.of (he.1.el.tk (Same.tk L.same)) xs (fun _ h => h), by omega, by simp only [List.length_nil] at hl2; omega, fun H10 kb hL => ?_⟩
      have lc := Mir.lea_cnt O.ans r0 x0 l2
      obtain ⟨l3, el3⟩ : ∃ l3, l3 = (Mir.lea O.ans x0 r0 l2).2 := ⟨_, rfl⟩
      obtain ⟨y3, ey3⟩ : ∃ y3, y3 = (Mir.lea O.ans x0 r0 l2).1 := ⟨_, rfl⟩
      rw [← el3] at hL
      rw [← el3, ← ey3, ← exr] at lc
      rw [← ey3]
      obtain ⟨⟨_, _, _, hq10⟩, _⟩ := hL
      refine lentQ_of (F := fun H11 => HeldS K a (ns.map V.int) q f c' ob qn [(rw, xs), (kp, xs)] xs cc l3 H11) (he.lent L kb hq10) fun Z6 hf => ?_
      clear hq10 lg8 hq8 qs L kb he ht2
      refine ⟨_, rfl, _, _, dp_el (hf.1.el y3 lc.2).1, dp_row (SqL.of (hf.1.ls (rw, xs) (by simp)).1) hf.1.el, shaped_pd _, shaped_row cc _, _, rfl, ?_⟩
      rw [any_pd, decide_eq_true (List.mem_map.mpr ⟨_, lc.2, rfl⟩)]
      refine iteF ?_
      -- the questions, nth
      obtain ⟨qs0, hq0, lg0⟩ := hf.1.hq
      have ll := lg0.length
      refine ⟨_, rfl, q, qs0, rfl, .inl (SqL.of hq0), _, rfl, _, _, ((3 * xs.length : Nat) : Int), rfl, rfl, .inl ⟨by omega, by omega⟩, (by show ((3 * xs.length : Nat) : Int) = 3 * (xs.length : Int); omega), _, _, ((3 * xs.length / 2 : Nat) : Int), rfl, rfl, ⟨by decide, by decide⟩, (by show ((3 * xs.length / 2 : Nat) : Int) = ((3 * xs.length : Nat) : Int) / 2; omega), _, rfl, _, _, ((3 * xs.length / 2 + xs.length : Nat) : Int), rfl, rfl, (by show ((3 * xs.length / 2 + xs.length : Nat) : Int) = ((3 * xs.length / 2 : Nat) : Int) + (xs.length : Int); omega), _, _, ((3 * xs.length / 2 + xs.length : Nat) : Int) - 1, rfl, rfl, rfl, _, _, rfl, rfl, _, rfl, ?_⟩
      refine iteD (fun h => ?_) (fun _ => ?_)
      · have h' : ((3 * xs.length / 2 + xs.length : Nat) : Int) - 1 < (qs0.length : Int) := h
        simp only [List.length_nil] at hl2
        omega
      have l3b : l3.length ≤ 1000 := by simp only [List.length_nil] at hl2; omega
      refine ⟨_, rfl, _, rfl, _, _, ((xs.length / 2 : Nat) : Int), rfl, rfl, ⟨by decide, by decide⟩, (by show ((xs.length / 2 : Nat) : Int) = (xs.length : Int) / 2; omega), _, rfl, ?_⟩
      intro H9 L
      have hq8 := hq0
      have lg8 := lg0
      have lgb : xs.length * Mir.clog xs.length ≤ 40 * 6 := Nat.mul_le_mul lx (Mir.clog_le.mpr (by omega))
      refine ⟨O, rw, xs, xs.length / 2, l3, rfl, Row.of (L.keep (hf.1.ls (rw, xs) (by simp)).1) (hf.1.ls (rw, xs) (by simp)).2, ⟨L.log (js := [3, 0]) (NdefX.ndef_free (sc := defScope st_law) (fr := ["_law_asked", "_law_script"]) (by decide +kernel)) (NdefX.ndef_fr (sc := defScope st_law) (fr := ["_law_asked", "_law_script"]) (by decide +kernel)) rfl (by have e := hf.1.hf; rw [eob] at e; exact e) (by have e := hf.1.hc; rw [eqn] at e; exact e) hq8 lg8, hf.2.ek (EK.same L.same)⟩, domO (hf.1.el.tk (Same.tk L.same)), by omega, by omega, by omega, fun H10 z kb ez hL => ?_⟩
      have mz : z ∈ xs := Mir.stab_mem O.ans _ xs l3 z (Nat.le_refl _) (List.mem_of_getElem? ez)
      obtain ⟨⟨_, _, _, hq10⟩, _⟩ := hL
      refine lentQ_of (F := fun H11 => HeldS K a (ns.map V.int) q f c' ob qn [(rw, xs), (kp, xs)] xs cc (Mir.stab O.ans xs l3).2 H11) (hf.lent L kb hq10) fun Z7 hg => ?_
      refine ⟨_, rfl, _, _, dp_el (hg.1.el z mz).1, dp_row (SqL.of (hg.1.ls (rw, xs) (by simp)).1) hg.1.el, shaped_pd _, shaped_row cc _, _, rfl, ?_⟩
      rw [any_pd, decide_eq_true (List.mem_map.mpr ⟨_, mz, rfl⟩)]
      refine iteF ?_
      rw [eMid]
      exact ⟨_, _, _, rfl, hg⟩
    rw [eMid] at hM
    obtain ⟨v6, v7, l1', rfl, hc1⟩ := hM
    clear eMid Mid hb
    obtain ⟨qs0, hq0, lg0⟩ := hc1.1.hq
    refine ⟨_, rfl, .inl ⟨rfl, _, SqL.of hq0⟩, q, qs0, rfl, rfl, hq0, ?_⟩
    have hd1 := hc1.wr (qs := []) .nil
    obtain ⟨Z3, e7⟩ : ∃ Z, Z = upd Z2 q (.lst []) := ⟨_, rfl⟩
    rw [← e7] at hd1 ⊢
    clear e7 hq0 lg0 hc1
    -- count
    refine ⟨_, rfl, a, ns, 2, rfl, hd1.2.sq, hz', fun Z4 s4 => ⟨_, 4, rfl, ?_⟩⟩
    have hd2 := hd1.same s4
    clear hd1 s4
    obtain ⟨m, em⟩ : ∃ m, m = Mir.drawn (Mir.cellI ns 2) 4 := ⟨_, rfl⟩
    rw [← em]
    obtain ⟨ct, ect, hct⟩ : ∃ ct : Nat, (ct : Int) = m % 45 ∧ ct < 45 := ⟨(m % 45).toNat, by omega, by omega⟩
    refine ⟨_, _, (ct : Int), rfl, rfl, (by show (0 : Int) < 45; decide), ect, ?_⟩
    -- best
    refine ⟨_, rfl, _, rfl, _, rfl, ?_⟩
    intro H9 L
    obtain ⟨qs, hq8, lg8⟩ := hd2.1.hq
    have cb : xs.length * (Mir.clog (ct + 1) + 1) ≤ 40 * 7 := Nat.mul_le_mul lx (by have : Mir.clog (ct + 1) ≤ 6 := Mir.clog_le.mpr (by omega); omega)
    refine ⟨O, rw, xs, ct, [], rfl, Row.of (L.keep (hd2.1.ls (rw, xs) (by simp)).1) (hd2.1.ls (rw, xs) (by simp)).2, ⟨L.log (js := [3, 0]) (NdefX.ndef_free (sc := defScope st_law) (fr := ["_law_asked", "_law_script"]) (by decide +kernel)) (NdefX.ndef_fr (sc := defScope st_law) (fr := ["_law_asked", "_law_script"]) (by decide +kernel)) rfl (by have e := hd2.1.hf; rw [eob] at e; exact e) (by have e := hd2.1.hc; rw [eqn] at e; exact e) hq8 lg8, hd2.2.ek (EK.same L.same)⟩, domO (hd2.1.el.tk (Same.tk L.same)), by omega, by omega, by simp only [List.length_nil]; omega, fun H10 p zs l2 kb np hp hL hl2 _ hzm hzl hzr _ => ?_⟩
    obtain ⟨⟨_, _, _, hq10⟩, _⟩ := hL
    refine lentQ_of (F := fun H11 => HeldS K a (ns.map V.int) q f c' ob qn [(rw, xs), (kp, xs)] xs cc l2 H11 ∧ H11 p = some (.lst zs)) ⟨hd2.lent L kb hq10, hd2.1.at3 L kb hp lst_fz⟩ fun Z5 ⟨he, hp2⟩ => ?_
    clear hq10 lg8 hq8 qs L kb np hp hd2
    refine ⟨_, rfl, p, zs, rfl, .inl (SqL.of hp2), _, rfl, _, rfl, _, _, rfl, rfl, _, rfl, ?_⟩
    rw [show (if (xs.length : Int) < (ct : Int) then (xs.length : Int) else (ct : Int)) = (zs.length : Int) from by rw [hzl]; split <;> omega]
    rw [decide_eq_true rfl]
    refine iteF ?_
    obtain ⟨qs0, hq0, lg0⟩ := he.1.hq
    have ll := lg0.length
    obtain ⟨bd, ebd⟩ : ∃ bd, bd = xs.length * (Mir.clog (ct + 1) + 1) := ⟨_, rfl⟩
    rw [← ebd] at hl2 cb
    refine ⟨_, rfl, q, qs0, rfl, .inl (SqL.of hq0), _, rfl, _, rfl, _, _, ((ct + 1 : Nat) : Int), rfl, rfl, rfl, ct + 1, rfl, by omega, _, _, ((Mir.clog (ct + 1) + 1 : Nat) : Int), rfl, rfl, rfl, _, _, ((bd : Nat) : Int), rfl, rfl, .inl ⟨by omega, by omega⟩, (by show ((bd : Nat) : Int) = (xs.length : Int) * ((Mir.clog (ct + 1) + 1 : Nat) : Int); rw [ebd]; exact Int.natCast_mul _ _), _, _, rfl, rfl, _, rfl, ?_⟩
    refine iteD (fun h => ?_) (fun _ => ?_)
    · have h' : ((bd : Nat) : Int) < (qs0.length : Int) := h
      simp only [List.length_nil] at hl2
      omega
    clear hq0 lg0 ll hl2
    -- alike
    have eZ5 : Els cc zs Z5 := he.1.el.sub hzm
    refine ⟨_, rfl, _, rfl, rw, rfl, ⟨_, SqL.of (he.1.ls (rw, xs) (by simp)).1⟩, fun D hD => ?_⟩
    refine lc_list (K := K) (a := rw) (xs := xs) (fun i H3 => Same Z5 H3 ∧ H3 D = some (.lst ((xs.take i).filter fun x => !decide (cc x ∈ zs.map cc)))) ⟨Same.new hD, by rw [upd_same]; rfl⟩ (fun i H3 _ h => SqL.of (h.1 _ _ (he.1.ls (rw, xs) (by simp)).1)) ?_ ?_
    · rintro j x H3 hj ⟨s3, h3⟩
      have hxm := List.mem_of_getElem? hj
      have hjl : j < xs.length := (List.getElem?_eq_some_iff.mp hj).1
      have et : xs.take (j + 1) = xs.take j ++ [x] := by rw [List.take_add_one, hj]; rfl
      refine ⟨rfl, ?_⟩
      refine ⟨_, rfl, _, rfl, _, _, dp_el ((he.same s3).1.el x hxm).1, dp_row (SqL.of (s3 _ _ hp2)) (eZ5.tk (Same.tk s3)), shaped_pd _, shaped_row cc _, _, rfl, ?_⟩
      rw [any_pd]
      refine iteB (fun h => ?_) (fun h => ?_)
      · refine ⟨_, rfl, _, h3, small1000 (Nat.le_trans (List.length_filter_le _ _) (by rw [List.length_take]; omega)), fun b o e => ?_, ?_⟩
        · rw [upd_ne (ne_of_none e hD)]
          exact s3 _ _ e
        · rw [upd_same, et, List.filter_append, List.filter_cons, if_pos h]
          rfl
      · refine ⟨s3, ?_⟩
        rw [h3, et, List.filter_append, List.filter_cons, if_neg (by rw [h]; exact Bool.false_ne_true)]
        simp
    rintro Z6 ⟨s6, h6⟩
    rw [List.take_length] at h6
    obtain ⟨ws, ews⟩ : ∃ ws, ws = xs.filter fun x => !decide (cc x ∈ zs.map cc) := ⟨_, rfl⟩
    rw [← ews] at h6
    have hf := he.same s6
    have hpr : (zs ++ ws).Perm xs := by
      obtain ⟨r, hr⟩ := hzr
      rw [ews]
      exact best_rest hr hnd
    have lzw := hpr.length_eq
    rw [List.length_append] at lzw
    refine ⟨p, D, zs, ws, rfl, rfl, s6 _ _ hp2, h6, z1000 (by omega), fun b3 nb3 => ?_⟩
    have hg := hf.same (Same.new (o := .lst (zs ++ ws)) nb3)
    refine ⟨_, rfl, b3, rw, zs ++ ws, xs, cc, rfl, SqL.of upd_same, SqL.of (hg.1.ls (rw, xs) (by simp)).1, hg.1.el.sub fun x hx => hpr.subset hx, hg.1.el, by omega, hpr.map cc, fun Z7 s7 => ?_⟩
    refine ⟨_, rfl, iteF ?_⟩
    have hh := hg.same s7
    clear hg nb3 hpr lzw hf h6 ews s6 hD eZ5 he hp2 hzr hzl hzm
    obtain ⟨qs0, hq0, lg0⟩ := hh.1.hq
    refine ⟨_, rfl, .inl ⟨rfl, _, SqL.of hq0⟩, q, qs0, rfl, rfl, hq0, ?_⟩
    have hi := hh.wr (qs := []) .nil
    obtain ⟨Z8, e7⟩ : ∃ Z, Z = upd Z7 q (.lst []) := ⟨_, rfl⟩
    rw [← e7] at hi ⊢
    clear e7 hq0 lg0 hh
    -- turned_pairs
    refine ⟨_, rfl, _, rfl, ?_⟩
    intro H9 L
    obtain ⟨qs, hq8, lg8⟩ := hi.1.hq
    have lgb : xs.length * Mir.clog xs.length ≤ 40 * 6 := Nat.mul_le_mul lx (Mir.clog_le.mpr (by omega))
    refine ⟨O, rw, xs, [], rfl, Row.of (L.keep (hi.1.ls (rw, xs) (by simp)).1) (hi.1.ls (rw, xs) (by simp)).2, ⟨L.log (js := [3, 0]) (NdefX.ndef_free (sc := defScope st_law) (fr := ["_law_asked", "_law_script"]) (by decide +kernel)) (NdefX.ndef_fr (sc := defScope st_law) (fr := ["_law_asked", "_law_script"]) (by decide +kernel)) rfl (by have e := hi.1.hf; rw [eob] at e; exact e) (by have e := hi.1.hc; rw [eqn] at e; exact e) hq8 lg8, hi.2.ek (EK.same L.same)⟩, domO (hi.1.el.tk (Same.tk L.same)), by omega, by simp only [List.length_nil]; omega, fun H10 kb hL => ?_⟩
    have ec := (Mir.ctd_len O.ans _ xs [] (Nat.le_refl _)).2.2.2
    obtain ⟨tn, etn⟩ : ∃ tn, tn = (Mir.ctd O.ans xs []).2.2 := ⟨_, rfl⟩
    obtain ⟨l3, el3⟩ : ∃ l3, l3 = (Mir.ctd O.ans xs []).2.1 := ⟨_, rfl⟩
    rw [← etn] at ec ⊢
    rw [← el3] at ec hL
    obtain ⟨⟨_, _, _, hq10⟩, _⟩ := hL
    refine lentQ_of (F := fun H11 => HeldS K a (ns.map V.int) q f c' ob qn [(rw, xs), (kp, xs)] xs cc l3 H11) (hi.lent L kb hq10) fun Z9 hj => ?_
    clear hq10 lg8 hq8 qs L kb hi
    obtain ⟨pr, epr⟩ : ∃ pr, pr = xs.length * (xs.length - 1) := ⟨_, rfl⟩
    have hpr : pr ≤ 1560 := by
      rw [epr]
      exact Nat.le_trans (Nat.mul_le_mul lx (show xs.length - 1 ≤ 39 by omega)) (by decide)
    rw [← epr] at ec
    refine ⟨_, _, rfl, rfl, _, rfl, ?_⟩
    refine iteD (fun _ => ?_) (fun h => absurd (show (0 : Int) ≤ (tn : Int) by omega) h)
    refine ⟨_, rfl, _, rfl, _, _, ((xs.length : Int) - 1), rfl, rfl, rfl, _, _, ((pr : Nat) : Int), rfl, rfl, .inl ⟨by omega, by omega⟩, ?_, _, _, ((pr / 2 : Nat) : Int), rfl, rfl, ⟨by decide, by decide⟩, (by show ((pr / 2 : Nat) : Int) = ((pr : Nat) : Int) / 2; omega), _, _, rfl, rfl, _, rfl, ?_⟩
    · show ((pr : Nat) : Int) = (xs.length : Int) * ((xs.length : Int) - 1)
      rw [epr]
      cases e : xs.length with
      | zero => simp
      | succ n =>
        rw [Nat.add_sub_cancel, Int.natCast_mul]
        congr 1
        omega
    rw [show decide ((tn : Int) ≤ ((pr / 2 : Nat) : Int)) = true from decide_eq_true (by omega)]
    refine iteF ?_
    obtain ⟨qs0, hq0, lg0⟩ := hj.1.hq
    have ll := lg0.length
    obtain ⟨bd2, ebd2⟩ : ∃ bd, bd = xs.length * Mir.clog xs.length := ⟨_, rfl⟩
    rw [← ebd2] at ec lgb
    refine ⟨_, rfl, q, qs0, rfl, .inl (SqL.of hq0), _, rfl, _, rfl, xs.length, rfl, by omega, _, _, ((bd2 : Nat) : Int), rfl, rfl, .inl ⟨by omega, by omega⟩, (by show ((bd2 : Nat) : Int) = (xs.length : Int) * (Mir.clog xs.length : Int); rw [ebd2]; exact Int.natCast_mul _ _), _, _, rfl, rfl, _, rfl, ?_⟩
    refine iteD (fun h => ?_) (fun _ => ?_)
    · have h' : ((bd2 : Nat) : Int) < (qs0.length : Int) := h
      simp only [List.length_nil] at ec
      omega
    clear hq0 lg0 ll ec
    obtain ⟨qs0, hq0, lg0⟩ := hj.1.hq
    refine ⟨_, rfl, .inl ⟨rfl, _, SqL.of hq0⟩, q, qs0, rfl, rfl, hq0, ?_⟩
    have hk := hj.wr (qs := []) .nil
    obtain ⟨Za, e7⟩ : ∃ Z, Z = upd Z9 q (.lst []) := ⟨_, rfl⟩
    rw [← e7] at hk ⊢
    clear e7 hq0 lg0 hj
    -- rising
    refine ⟨_, rfl, _, rfl, ?_⟩
    intro H9 L
    obtain ⟨qs, hq8, lg8⟩ := hk.1.hq
    have lgc : xs.length * Mir.clog (xs.length + 1) ≤ 40 * 6 := Nat.mul_le_mul lx (Mir.clog_le.mpr (by omega))
    refine ⟨O, rw, xs, [], rfl, Row.of (L.keep (hk.1.ls (rw, xs) (by simp)).1) (hk.1.ls (rw, xs) (by simp)).2, ⟨L.log (js := [3, 0]) (NdefX.ndef_free (sc := defScope st_law) (fr := ["_law_asked", "_law_script"]) (by decide +kernel)) (NdefX.ndef_fr (sc := defScope st_law) (fr := ["_law_asked", "_law_script"]) (by decide +kernel)) rfl (by have e := hk.1.hf; rw [eob] at e; exact e) (by have e := hk.1.hc; rw [eqn] at e; exact e) hq8 lg8, hk.2.ek (EK.same L.same)⟩, domO (hk.1.el.tk (Same.tk L.same)), by omega, by simp only [List.length_nil]; omega, fun H10 p2 pl l4 kb np hp hL hl4 hpm hpp _ => ?_⟩
    obtain ⟨⟨_, _, _, hq10⟩, _⟩ := hL
    refine lentQ_of (F := fun H11 => HeldS K a (ns.map V.int) q f c' ob qn [(rw, xs), (kp, xs)] xs cc l4 H11 ∧ H11 p2 = some (.lst (niV pl))) ⟨hk.lent L kb hq10, hk.1.at3 L kb hp lst_fz⟩ fun Zb ⟨hm, hp2⟩ => ?_
    clear hq10 lg8 hq8 qs L kb np hp hk
    obtain ⟨qs0, hq0, lg0⟩ := hm.1.hq
    have ll := lg0.length
    obtain ⟨bd3, ebd3⟩ : ∃ bd, bd = xs.length * Mir.clog (xs.length + 1) := ⟨_, rfl⟩
    rw [← ebd3] at hl4 lgc
    refine ⟨_, rfl, q, qs0, rfl, .inl (SqL.of hq0), _, rfl, _, rfl, _, _, ((xs.length + 1 : Nat) : Int), rfl, rfl, rfl, xs.length + 1, rfl, by omega, _, _, ((bd3 : Nat) : Int), rfl, rfl, .inl ⟨by omega, by omega⟩, (by show ((bd3 : Nat) : Int) = (xs.length : Int) * (Mir.clog (xs.length + 1) : Int); rw [ebd3]; exact Int.natCast_mul _ _), _, _, rfl, rfl, _, rfl, ?_⟩
    refine iteD (fun h => ?_) (fun _ => ?_)
    · have h' : ((bd3 : Nat) : Int) < (qs0.length : Int) := h
      simp only [List.length_nil] at hl4
      omega
    clear hq0 lg0 ll hl4
    have lpx : pl.length ≤ 40 := by
      have h : ∀ (pl : List Nat) (n lo : Nat), (∀ i ∈ pl, lo ≤ i ∧ i < n) → pl.Pairwise (· < ·) → pl.length + lo ≤ max n lo := by
        intro pl
        induction pl with
        | nil => intro n lo _ _; rw [List.length_nil]; omega
        | cons x xs ih =>
          intro n lo h hp
          obtain ⟨h1, h2⟩ := List.pairwise_cons.mp hp
          have hx := h x List.mem_cons_self
          have ih := ih n (x + 1) (fun i hi => ⟨h1 i hi, (h i (List.mem_cons_of_mem _ hi)).2⟩) h2
          rw [List.length_cons]
          omega
      have h := h pl xs.length 0 (fun i hi => ⟨Nat.zero_le _, hpm i hi⟩) hpp
      omega
    have lpl : (niV pl).length = pl.length := List.length_map ..
    -- all in range
    refine ⟨_, rfl, p2, rfl, ⟨_, SqL.of hp2⟩, fun D hD => ?_⟩
    refine lc_list (K := K) (a := p2) (xs := niV pl) (fun i H3 => Same Zb H3 ∧ H3 D = some (.lst ((List.replicate i true).map V.bl))) ⟨Same.new hD, upd_same⟩ (fun i H3 _ h => SqL.of (h.1 _ _ hp2)) ?_ ?_
    · rintro i z H3 hi ⟨s3, h3⟩
      rw [List.getElem?_map] at hi
      obtain ⟨t, et, rfl⟩ := Option.map_eq_some_iff.mp hi
      have ht := hpm t (List.mem_of_getElem? et)
      have hil := (List.getElem?_eq_some_iff.mp et).1
      refine ⟨rfl, ?_⟩
      refine ⟨_, rfl, _, _, rfl, rfl, _, rfl, ?_⟩
      refine iteD (fun _ => ?_) (fun h => absurd (show (0 : Int) ≤ (t : Int) by omega) h)
      refine ⟨_, rfl, _, _, rfl, rfl, ?_⟩
      dsimp only
      rw [show decide ((t : Int) < (xs.length : Int)) = true from decide_eq_true (by omega)]
      refine ⟨_, h3, small1000 (by rw [List.length_map, List.length_replicate]; omega), fun b o e => ?_, ?_⟩
      · rw [upd_ne (ne_of_none e hD)]
        exact s3 _ _ e
      · rw [upd_same, List.replicate_succ', List.map_append]
        rfl
    rintro Zc ⟨s3, h3⟩
    refine ⟨D, _, rfl, SqL.of h3, ?_⟩
    rw [show (List.replicate (niV pl).length true).all id = true from by simp]
    refine ⟨_, rfl, iteF ?_⟩
    have hn := hm.same s3
    have hp3 := s3 _ _ hp2
    clear hm hp2 hD h3 s3
    -- rising places
    refine ⟨_, rfl, p2, niV pl, rfl, .inl (SqL.of hp3), (1 : Int), (pl.length : Int), by rw [lpl], ⟨by omega, by omega, by omega, by omega⟩, fun D hD => ?_⟩
    refine lc_range (lo := 1) (n := ((pl.length : Int) - 1).toNat) (fun i H3 => Same Zc H3 ∧ H3 D = some (.lst ((List.replicate i true).map V.bl))) ⟨Same.new hD, upd_same⟩ ?_ ?_
    · rintro i H3 hi ⟨s3, h3⟩
      rw [show ((1 : Int) + (i : Nat)) = ((i + 1 : Nat) : Int) by omega]
      obtain ⟨t, et⟩ : ∃ t, pl[i]? = some t := ⟨_, List.getElem?_eq_getElem (by omega)⟩
      obtain ⟨u, eu⟩ : ∃ u, pl[i + 1]? = some u := ⟨_, List.getElem?_eq_getElem (by omega)⟩
      have ent : (niV pl)[i]? = some (.int (t : Nat)) := by rw [List.getElem?_map, et]; rfl
      have enu : (niV pl)[i + 1]? = some (.int (u : Nat)) := by rw [List.getElem?_map, eu]; rfl
      have li := (List.getElem?_eq_some_iff.mp et)
      have lu := (List.getElem?_eq_some_iff.mp eu)
      have tu : t < u := by
        have h := List.pairwise_iff_getElem.mp hpp i (i + 1) li.1 lu.1 (by omega)
        rw [li.2, lu.2] at h
        exact h
      refine ⟨rfl, ?_⟩
      refine ⟨_, rfl, _, rfl, _, _, (i : Int), rfl, rfl, (by show (i : Int) = ((i + 1 : Nat) : Int) - 1; omega), p2, niV pl, _, .int (t : Nat), rfl, rfl, SqL.of (s3 _ _ hp3), atI_nat ent, _, rfl, _, rfl, p2, niV pl, _, .int (u : Nat), rfl, rfl, SqL.of (s3 _ _ hp3), atI_nat enu, _, _, rfl, rfl, ?_⟩
      dsimp only
      rw [show decide ((t : Int) < (u : Int)) = true from decide_eq_true (by omega)]
      refine ⟨_, h3, small1000 (by rw [List.length_map, List.length_replicate]; omega), fun b o e => ?_, ?_⟩
      · rw [upd_ne (ne_of_none e hD)]
        exact s3 _ _ e
      · rw [upd_same, List.replicate_succ', List.map_append]
        rfl
    rintro Zd ⟨s3, h3⟩
    refine ⟨D, _, rfl, SqL.of h3, ?_⟩
    rw [show (List.replicate ((pl.length : Int) - 1).toNat true).all id = true from by simp]
    refine ⟨_, rfl, iteT ?_⟩
    have ho := hn.same s3
    refine ⟨_, rfl, _, rfl, _, _, dp_row (SqL.of (ho.1.ls (rw, xs) (by simp)).1) ho.1.el, dp_row (SqL.of (ho.1.ls (kp, xs) (by simp)).1) ho.1.el, shaped_row cc _, shaped_row cc _, ?_⟩
    rw [eqv_row, decide_eq_true rfl]
    exact hQ _
theorem ok_law {c Pt : Addr} (d_law : Df K mg "law" st_law ["_law_script"]) (d_is_heap : Df K mg "is_heap" st_is_heap ["row", "order"]) (d_push : Df K mg "push" st_push ["heap", "new", "order"]) (d_sunk : Df K mg "sunk" st_sunk ["row", "place", "order"]) (d_pop : Df K mg "pop" st_pop ["heap", "order"]) (d_heaped : Df K mg "heaped" st_heaped ["row", "order"]) (d_least : Df K mg "least" st_least ["row", "order"]) (d_paired : Df K mg "paired" st_paired ["one", "other", "order"]) (d_ends : Df K mg "ends" st_ends ["row", "order"]) (d_best : Df K mg "best" st_best ["row", "many", "order"]) (d_nth : Df K mg "nth" st_nth ["row", "k", "order"]) (d_turned_pairs : Df K mg "turned_pairs" st_turned_pairs ["row", "order"]) (d_counted : Df K mg "counted" st_counted ["row", "order"]) (d_rising : Df K mg "rising" st_rising ["row", "order"]) (d_merged : Df K mg "merged" st_merged ["one", "other", "order"]) (d_stable : Df K mg "stable" st_stable ["row", "order"]) (d_upper : Df K mg "upper" st_upper ["row", "key", "order"]) (d__law_cell : Df K mg "_law_cell" st__law_cell ["_law_script", "_law_k"]) (d__law_drawn : Df K mg "_law_drawn" st__law_drawn ["_law_cell_here", "_law_k"]) (d__law_row : Df K mg "_law_row" st__law_row ["_law_script", "_law_start", "_law_many", "_law_spread"]) (d__law_size : Df K mg "_law_size" st__law_size ["_law_script", "_law_most"]) (d__law_lie : Df K mg "_law_lie" st__law_lie ["_law_asked", "_law_script", "_law_one", "_law_other"]) (d__law_alike : Df K mg "_law_alike" st__law_alike ["_law_one", "_law_other"]) (d__law_log : Df K mg "_law_log" st__law_log ["_law_many"]) (d__law_heaps_right : Df K mg "_law_heaps_right" st__law_heaps_right ["_law_row_here", "_law_order", "_law_asked"])
    (mLen : mg "len" = none) (mList : mg "list" = none) (mMin : mg "min" = none) (mMax : mg "max" = none) (mRange : mg "range" = none) (mReversed : mg "reversed" = none) (mAll : mg "all" = none) (mIsi : mg "isinstance" = none) (mBool : mg "bool" = none)
    (TB : TabB base mg c Pt) (hc : d_law.fd.code = .ref c) : FnOk P w K mg base CX0 20 d_law.f d_law.fd ["_law_script"] (spLaw K Pt) := by
  refine fn_frz (ok_lawF d_law d_is_heap d_push d_sunk d_pop d_heaped d_least d_paired d_ends d_best d_nth d_turned_pairs d_counted d_rising d_merged d_stable d_upper d__law_cell d__law_drawn d__law_row d__law_size d__law_lie d__law_alike d__law_log d__law_heaps_right mLen mList mMin mMax mRange mReversed mAll mIsi mBool TB hc) (fun vs H Q E h => ?_) fun vs H Q E h => ?_
  · obtain ⟨a, ns, rfl, _⟩ := h
    rfl
  · obtain ⟨a, ns, rfl, hS, hz, hP, hQ⟩ := h
    rcases hS with (hS | ⟨o, hS⟩) | hS
    · refine .inr ⟨a, ns.map V.int, hS, fun o => ⟨a, ns, rfl, .inl ⟨o, upd_same⟩, hz, (upd_ne fun z => ?_).trans hP, hQ⟩⟩
      rw [z, hS] at hP
      cases hP
    · exact .inl ⟨a, ns, rfl, .inl ⟨o, hS⟩, hz, hP, hQ⟩
    · exact .inl ⟨a, ns, rfl, .inr fun H' => .inr hS, hz, hP, hQ⟩
end
end Ord

namespace Ord
open PySem PySem.Spec PyProof.Rows L2 LamX
theorem toFun {K : PySem.W.Frag} {x qual : Str} {st : Stmt} {f : Addr} {fd : FuncData} (F : FunD K x qual (defArgs st) (defBody st) (defScope st) [] [] f fd) : Fun K x qual st f fd := by
  obtain ⟨oc, od, dV, kV, doc, pm, an, cdv, ct, osl, e, lk, hcd, hD, hK⟩ := F.ex
  rcases hD with ⟨_, rfl⟩ | ⟨z, _⟩
  · exact ⟨⟨oc, od, kV, doc, pm, an, cdv, ct, osl, e, lk, hcd⟩, F.kp⟩
  · exact absurd rfl z
theorem df_of {K : PySem.W.Frag} {mg : Str → Option Value} {x : Str} {st : Stmt} {ps : List Str} (h : ∃ fd, FunD K x x (defArgs st) (defBody st) (defScope st) [] [] (He.fAd K (x, none)) fd) (g : mg x = some (.ref (He.ga K x)))
    (hb : ∀ (kV doc pm : Value) (an : Option Addr) (cdv ct : Value) (us : List Value), us.length = ps.length → bindArgs (PySem.W.fnOf x x (defArgs st) (defBody st) (defScope st) .none kV doc pm an cdv ct) ⟨us, []⟩ = pure (ps.zip us)) :
    ∃ d : Df K mg x st ps, d.f = He.fAd K (x, none) := by
  obtain ⟨fd, F⟩ := h
  exact ⟨⟨_, fd, toFun F, g, (toFun F).binds hb⟩, rfl⟩
theorem df_code {K : PySem.W.Frag} {mg : Str → Option Value} {x : Str} {st : Stmt} {ps : List Str} (d : Df K mg x st ps) (e : d.f = He.fAd K (x, none)) : d.fd.code = .ref (He.cT K (x, none)).1 := by
  obtain ⟨oc, od, kV, doc, pm, an, cdv, ct, osl, e1, lk, hcd⟩ := d.F.ex
  obtain ⟨c, ec⟩ := He.codeIn_ref hcd
  have e2 : d.fd.code = .ref c := by rw [e1]; exact ec
  rw [e] at lk
  have e3 : He.codeOf K (x, none) = c := He.codeOf_eq lk e2
  rw [e2]
  show _ = Value.ref (He.codeOf K (x, none))
  rw [e3]
theorem df_bind {K : PySem.W.Frag} {mg : Str → Option Value} {x : Str} {st : Stmt} (d : Df K mg x st [y])
    (hb : ∀ (kV doc pm : Value) (an : Option Addr) (cdv ct : Value) (us : List Value), us.length = 1 → bindArgs (PySem.W.fnOf x x (defArgs st) (defBody st) (defScope st) .none kV doc pm an cdv ct) ⟨us, []⟩ = pure ([y].zip us)) : ∀ (s : Shared) (u : Value), BindsTo s d.fd ⟨[u], []⟩ [(y, u)] := by
  intro s u
  obtain ⟨oc, od, kV, doc, pm, an, cdv, ct, osl, e1, lk, hcd⟩ := d.F.ex
  rw [e1]
  exact .of_eq (hb kV doc pm an cdv ct [u] rfl)
end Ord

namespace Ord
open PySem PySem.Spec PyProof.Rows L2 LamX
def dd_is_heap : He.DefD := ⟨("is_heap", none), "is_heap", "is_heap", defArgs st_is_heap, defBody st_is_heap, defScope st_is_heap, [], []⟩
def dd_push : He.DefD := ⟨("push", none), "push", "push", defArgs st_push, defBody st_push, defScope st_push, [], []⟩
def dd_sunk : He.DefD := ⟨("sunk", none), "sunk", "sunk", defArgs st_sunk, defBody st_sunk, defScope st_sunk, [], []⟩
def dd_pop : He.DefD := ⟨("pop", none), "pop", "pop", defArgs st_pop, defBody st_pop, defScope st_pop, [], []⟩
def dd_heaped : He.DefD := ⟨("heaped", none), "heaped", "heaped", defArgs st_heaped, defBody st_heaped, defScope st_heaped, [], []⟩
def dd_merged : He.DefD := ⟨("merged", none), "merged", "merged", defArgs st_merged, defBody st_merged, defScope st_merged, [], []⟩
def dd_stable : He.DefD := ⟨("stable", none), "stable", "stable", defArgs st_stable, defBody st_stable, defScope st_stable, [], []⟩
def dd_upper : He.DefD := ⟨("upper", none), "upper", "upper", defArgs st_upper, defBody st_upper, defScope st_upper, [], []⟩
def dd_least : He.DefD := ⟨("least", none), "least", "least", defArgs st_least, defBody st_least, defScope st_least, [], []⟩
def dd_paired : He.DefD := ⟨("paired", none), "paired", "paired", defArgs st_paired, defBody st_paired, defScope st_paired, [], []⟩
def dd_ends : He.DefD := ⟨("ends", none), "ends", "ends", defArgs st_ends, defBody st_ends, defScope st_ends, [], []⟩
def dd_best : He.DefD := ⟨("best", none), "best", "best", defArgs st_best, defBody st_best, defScope st_best, [], []⟩
def dd_nth : He.DefD := ⟨("nth", none), "nth", "nth", defArgs st_nth, defBody st_nth, defScope st_nth, [], []⟩
def dd_turned_pairs : He.DefD := ⟨("turned_pairs", none), "turned_pairs", "turned_pairs", defArgs st_turned_pairs, defBody st_turned_pairs, defScope st_turned_pairs, [], []⟩
def dd_counted : He.DefD := ⟨("counted", none), "counted", "counted", defArgs st_counted, defBody st_counted, defScope st_counted, [], []⟩
def dd_rising : He.DefD := ⟨("rising", none), "rising", "rising", defArgs st_rising, defBody st_rising, defScope st_rising, [], []⟩
def dd__law_cell : He.DefD := ⟨("_law_cell", none), "_law_cell", "_law_cell", defArgs st__law_cell, defBody st__law_cell, defScope st__law_cell, [], []⟩
def dd__law_drawn : He.DefD := ⟨("_law_drawn", none), "_law_drawn", "_law_drawn", defArgs st__law_drawn, defBody st__law_drawn, defScope st__law_drawn, [], []⟩
def dd__law_row : He.DefD := ⟨("_law_row", none), "_law_row", "_law_row", defArgs st__law_row, defBody st__law_row, defScope st__law_row, [], []⟩
def dd__law_size : He.DefD := ⟨("_law_size", none), "_law_size", "_law_size", defArgs st__law_size, defBody st__law_size, defScope st__law_size, [], []⟩
def dd__law_lie : He.DefD := ⟨("_law_lie", none), "_law_lie", "_law_lie", defArgs st__law_lie, defBody st__law_lie, defScope st__law_lie, [], []⟩
def dd__law_alike : He.DefD := ⟨("_law_alike", none), "_law_alike", "_law_alike", defArgs st__law_alike, defBody st__law_alike, defScope st__law_alike, [], []⟩
def dd__law_log : He.DefD := ⟨("_law_log", none), "_law_log", "_law_log", defArgs st__law_log, defBody st__law_log, defScope st__law_log, [], []⟩
def dd__law_heaps_right : He.DefD := ⟨("_law_heaps_right", none), "_law_heaps_right", "_law_heaps_right", defArgs st__law_heaps_right, defBody st__law_heaps_right, defScope st__law_heaps_right, [], []⟩
def dd_law : He.DefD := ⟨("law", none), "law", "law", defArgs st_law, defBody st_law, defScope st_law, [], []⟩
def fnL : List He.DefD := [dd_is_heap, dd_push, dd_sunk, dd_pop, dd_heaped, dd_merged, dd_stable, dd_upper, dd_least, dd_paired, dd_ends, dd_best, dd_nth, dd_turned_pairs, dd_counted, dd_rising, dd__law_cell, dd__law_drawn, dd__law_row, dd__law_size, dd__law_lie, dd__law_alike, dd__law_log, dd__law_heaps_right, dd_law]
def faL : List He.Fa := [.glo "is_heap", .glo "push", .glo "sunk", .glo "pop", .glo "heaped", .glo "merged", .glo "stable", .glo "upper", .glo "least", .glo "paired", .glo "ends", .glo "best", .glo "nth", .glo "turned_pairs", .glo "counted", .glo "rising", .glo "_law_cell", .glo "_law_drawn", .glo "_law_row", .glo "_law_size", .glo "_law_lie", .glo "_law_alike", .glo "_law_log", .glo "_law_heaps_right", .glo "law", .free "len", .free "list", .free "min", .free "max", .free "range", .free "reversed", .free "all", .free "isinstance", .free "bool"]
def tfL : List He.Defn := [("law", none)]
abbrev RR : PySem.W.OpenRow := PySem.W.OpenLaw.row PySem.Challenge.rw_yourorder_k21_whole_picks_by_no_order
abbrev hkL : PySem.W.Hook := He.hookX 4 faL fnL [] tfL (fun _ => true)
def obL (s : PySem.W.SharedT) : He.AlX := He.obsX 4 faL fnL [] tfL (fun _ => true) (HandSHeadRun.getT s)
theorem obL_eq (s : PySem.W.SharedT) : obL s = hkL.obs s.abs := He.obsX_eq (HandSHeadRun.getT_eq s)
theorem runL (w : World) : HandSHeadRun.RunEq RR (PySem.W.view RR.prog [32]) hkL obL 20000 ["is_heap", "push", "sunk", "pop", "heaped", "merged", "stable", "upper", "least", "paired", "ends", "best", "nth", "turned_pairs", "counted", "rising", "_law_cell", "_law_drawn", "_law_row", "_law_size", "_law_lie", "_law_alike", "_law_log", "_law_heaps_right", "OrderError", "NoElement", "NoPlace"] w := by
  intro os
  kernel_rfl
theorem factsL {P : Program} {w : World} {K : PySem.W.Frag} {h : Heap} {mg : Str → Option Value} {f : Addr} (X : K.In h) (G : h.Ns mainGlobals mg) (hfa : mg ("law" : Str) = some (.ref f)) (cc : He.SaysX faL fnL [] tfL (fun _ => true) w h K) :
    ∃ fd : FuncData, (∀ (s : Shared) (u : Value), BindsTo s fd ⟨[u], []⟩ [("_law_script", u)]) ∧ ∀ base : Heap, K.In base → base.Ns mainGlobals mg → (∀ p ∈ tfL.map (He.cT K), TabB base mg p.1 p.2) → FnOk P w K mg base CX0 20 f fd ["_law_script"] (spLaw K (He.cT K ("law", none)).2) := by
  have c := cc.t.d
  obtain ⟨d_is_heap, e_is_heap⟩ := df_of (st := st_is_heap) (ps := ["row", "order"]) (c.def_ 0 (d := dd_is_heap) rfl) (He.glo_ok X G (c.fact 0 (f := .glo "is_heap") rfl)) (fun _ _ _ _ _ _ us hl => match us, hl with | [_, _], _ => rfl)
  obtain ⟨d_push, e_push⟩ := df_of (st := st_push) (ps := ["heap", "new", "order"]) (c.def_ 1 (d := dd_push) rfl) (He.glo_ok X G (c.fact 1 (f := .glo "push") rfl)) (fun _ _ _ _ _ _ us hl => match us, hl with | [_, _, _], _ => rfl)
  obtain ⟨d_sunk, e_sunk⟩ := df_of (st := st_sunk) (ps := ["row", "place", "order"]) (c.def_ 2 (d := dd_sunk) rfl) (He.glo_ok X G (c.fact 2 (f := .glo "sunk") rfl)) (fun _ _ _ _ _ _ us hl => match us, hl with | [_, _, _], _ => rfl)
  obtain ⟨d_pop, e_pop⟩ := df_of (st := st_pop) (ps := ["heap", "order"]) (c.def_ 3 (d := dd_pop) rfl) (He.glo_ok X G (c.fact 3 (f := .glo "pop") rfl)) (fun _ _ _ _ _ _ us hl => match us, hl with | [_, _], _ => rfl)
  obtain ⟨d_heaped, e_heaped⟩ := df_of (st := st_heaped) (ps := ["row", "order"]) (c.def_ 4 (d := dd_heaped) rfl) (He.glo_ok X G (c.fact 4 (f := .glo "heaped") rfl)) (fun _ _ _ _ _ _ us hl => match us, hl with | [_, _], _ => rfl)
  obtain ⟨d_merged, e_merged⟩ := df_of (st := st_merged) (ps := ["one", "other", "order"]) (c.def_ 5 (d := dd_merged) rfl) (He.glo_ok X G (c.fact 5 (f := .glo "merged") rfl)) (fun _ _ _ _ _ _ us hl => match us, hl with | [_, _, _], _ => rfl)
  obtain ⟨d_stable, e_stable⟩ := df_of (st := st_stable) (ps := ["row", "order"]) (c.def_ 6 (d := dd_stable) rfl) (He.glo_ok X G (c.fact 6 (f := .glo "stable") rfl)) (fun _ _ _ _ _ _ us hl => match us, hl with | [_, _], _ => rfl)
  obtain ⟨d_upper, e_upper⟩ := df_of (st := st_upper) (ps := ["row", "key", "order"]) (c.def_ 7 (d := dd_upper) rfl) (He.glo_ok X G (c.fact 7 (f := .glo "upper") rfl)) (fun _ _ _ _ _ _ us hl => match us, hl with | [_, _, _], _ => rfl)
  obtain ⟨d_least, e_least⟩ := df_of (st := st_least) (ps := ["row", "order"]) (c.def_ 8 (d := dd_least) rfl) (He.glo_ok X G (c.fact 8 (f := .glo "least") rfl)) (fun _ _ _ _ _ _ us hl => match us, hl with | [_, _], _ => rfl)
  obtain ⟨d_paired, e_paired⟩ := df_of (st := st_paired) (ps := ["one", "other", "order"]) (c.def_ 9 (d := dd_paired) rfl) (He.glo_ok X G (c.fact 9 (f := .glo "paired") rfl)) (fun _ _ _ _ _ _ us hl => match us, hl with | [_, _, _], _ => rfl)
  obtain ⟨d_ends, e_ends⟩ := df_of (st := st_ends) (ps := ["row", "order"]) (c.def_ 10 (d := dd_ends) rfl) (He.glo_ok X G (c.fact 10 (f := .glo "ends") rfl)) (fun _ _ _ _ _ _ us hl => match us, hl with | [_, _], _ => rfl)
  obtain ⟨d_best, e_best⟩ := df_of (st := st_best) (ps := ["row", "many", "order"]) (c.def_ 11 (d := dd_best) rfl) (He.glo_ok X G (c.fact 11 (f := .glo "best") rfl)) (fun _ _ _ _ _ _ us hl => match us, hl with | [_, _, _], _ => rfl)
  obtain ⟨d_nth, e_nth⟩ := df_of (st := st_nth) (ps := ["row", "k", "order"]) (c.def_ 12 (d := dd_nth) rfl) (He.glo_ok X G (c.fact 12 (f := .glo "nth") rfl)) (fun _ _ _ _ _ _ us hl => match us, hl with | [_, _, _], _ => rfl)
  obtain ⟨d_turned_pairs, e_turned_pairs⟩ := df_of (st := st_turned_pairs) (ps := ["row", "order"]) (c.def_ 13 (d := dd_turned_pairs) rfl) (He.glo_ok X G (c.fact 13 (f := .glo "turned_pairs") rfl)) (fun _ _ _ _ _ _ us hl => match us, hl with | [_, _], _ => rfl)
  obtain ⟨d_counted, e_counted⟩ := df_of (st := st_counted) (ps := ["row", "order"]) (c.def_ 14 (d := dd_counted) rfl) (He.glo_ok X G (c.fact 14 (f := .glo "counted") rfl)) (fun _ _ _ _ _ _ us hl => match us, hl with | [_, _], _ => rfl)
  obtain ⟨d_rising, e_rising⟩ := df_of (st := st_rising) (ps := ["row", "order"]) (c.def_ 15 (d := dd_rising) rfl) (He.glo_ok X G (c.fact 15 (f := .glo "rising") rfl)) (fun _ _ _ _ _ _ us hl => match us, hl with | [_, _], _ => rfl)
  obtain ⟨d__law_cell, e__law_cell⟩ := df_of (st := st__law_cell) (ps := ["_law_script", "_law_k"]) (c.def_ 16 (d := dd__law_cell) rfl) (He.glo_ok X G (c.fact 16 (f := .glo "_law_cell") rfl)) (fun _ _ _ _ _ _ us hl => match us, hl with | [_, _], _ => rfl)
  obtain ⟨d__law_drawn, e__law_drawn⟩ := df_of (st := st__law_drawn) (ps := ["_law_cell_here", "_law_k"]) (c.def_ 17 (d := dd__law_drawn) rfl) (He.glo_ok X G (c.fact 17 (f := .glo "_law_drawn") rfl)) (fun _ _ _ _ _ _ us hl => match us, hl with | [_, _], _ => rfl)
  obtain ⟨d__law_row, e__law_row⟩ := df_of (st := st__law_row) (ps := ["_law_script", "_law_start", "_law_many", "_law_spread"]) (c.def_ 18 (d := dd__law_row) rfl) (He.glo_ok X G (c.fact 18 (f := .glo "_law_row") rfl)) (fun _ _ _ _ _ _ us hl => match us, hl with | [_, _, _, _], _ => rfl)
  obtain ⟨d__law_size, e__law_size⟩ := df_of (st := st__law_size) (ps := ["_law_script", "_law_most"]) (c.def_ 19 (d := dd__law_size) rfl) (He.glo_ok X G (c.fact 19 (f := .glo "_law_size") rfl)) (fun _ _ _ _ _ _ us hl => match us, hl with | [_, _], _ => rfl)
  obtain ⟨d__law_lie, e__law_lie⟩ := df_of (st := st__law_lie) (ps := ["_law_asked", "_law_script", "_law_one", "_law_other"]) (c.def_ 20 (d := dd__law_lie) rfl) (He.glo_ok X G (c.fact 20 (f := .glo "_law_lie") rfl)) (fun _ _ _ _ _ _ us hl => match us, hl with | [_, _, _, _], _ => rfl)
  obtain ⟨d__law_alike, e__law_alike⟩ := df_of (st := st__law_alike) (ps := ["_law_one", "_law_other"]) (c.def_ 21 (d := dd__law_alike) rfl) (He.glo_ok X G (c.fact 21 (f := .glo "_law_alike") rfl)) (fun _ _ _ _ _ _ us hl => match us, hl with | [_, _], _ => rfl)
  obtain ⟨d__law_log, e__law_log⟩ := df_of (st := st__law_log) (ps := ["_law_many"]) (c.def_ 22 (d := dd__law_log) rfl) (He.glo_ok X G (c.fact 22 (f := .glo "_law_log") rfl)) (fun _ _ _ _ _ _ us hl => match us, hl with | [_], _ => rfl)
  obtain ⟨d__law_heaps_right, e__law_heaps_right⟩ := df_of (st := st__law_heaps_right) (ps := ["_law_row_here", "_law_order", "_law_asked"]) (c.def_ 23 (d := dd__law_heaps_right) rfl) (He.glo_ok X G (c.fact 23 (f := .glo "_law_heaps_right") rfl)) (fun _ _ _ _ _ _ us hl => match us, hl with | [_, _, _], _ => rfl)
  obtain ⟨d_law, e_law⟩ := df_of (st := st_law) (ps := ["_law_script"]) (c.def_ 24 (d := dd_law) rfl) (He.glo_ok X G (c.fact 24 (f := .glo "law") rfl)) (fun _ _ _ _ _ _ us hl => match us, hl with | [_], _ => rfl)
  have e := hfa.symm.trans d_law.g
  cases e
  refine ⟨d_law.fd, df_bind d_law (fun _ _ _ _ _ _ us hl => match us, hl with | [_], _ => rfl), fun base hK hG hT => ?_⟩
  exact ok_law d_law d_is_heap d_push d_sunk d_pop d_heaped d_least d_paired d_ends d_best d_nth d_turned_pairs d_counted d_rising d_merged d_stable d_upper d__law_cell d__law_drawn d__law_row d__law_size d__law_lie d__law_alike d__law_log d__law_heaps_right  (He.free_ok X G (c.fact 25 (f := .free "len") rfl)) (He.free_ok X G (c.fact 26 (f := .free "list") rfl)) (He.free_ok X G (c.fact 27 (f := .free "min") rfl)) (He.free_ok X G (c.fact 28 (f := .free "max") rfl)) (He.free_ok X G (c.fact 29 (f := .free "range") rfl)) (He.free_ok X G (c.fact 30 (f := .free "reversed") rfl)) (He.free_ok X G (c.fact 31 (f := .free "all") rfl)) (He.free_ok X G (c.fact 32 (f := .free "isinstance") rfl)) (He.free_ok X G (c.fact 33 (f := .free "bool") rfl)) (hT (He.cT K ("law", none)) (List.mem_map.mpr ⟨("law", none), by simp [tfL], rfl⟩)) (df_code d_law e_law)
end Ord
open PySem PySem.W PySem.Calls PyProof.Rows
theorem PySem.Challenge.cw_yourorder_k21_whole_picks_by_no_order_holds : PySem.Challenge.rw_yourorder_k21_whole_picks_by_no_order.Holds := by
  w_on; o_law
  refine HandSHeadRun.head_any (r := OpenLaw.row PySem.Challenge.rw_yourorder_k21_whole_picks_by_no_order) (q := view (OpenLaw.row PySem.Challenge.rw_yourorder_k21_whole_picks_by_no_order).prog [32]) (H := Ord.hkL) (ob := Ord.obL) (M := 20000) (loose := ["is_heap", "push", "sunk", "pop", "heaped", "merged", "stable", "upper", "least", "paired", "ends", "best", "nth", "turned_pairs", "counted", "rising", "_law_cell", "_law_drawn", "_law_row", "_law_size", "_law_lie", "_law_alike", "_law_log", "_law_heaps_right", "OrderError", "NoElement", "NoPlace"]) (d := HandSHeadRun.topDef (OpenLaw.row PySem.Challenge.rw_yourorder_k21_whole_picks_by_no_order).prog 32) (kwd := []) Ord.obL_eq
    (by kernel_rfl) (fun s => by kernel_rfl) Ord.runL (by kernel_rfl) (by kernel_rfl) (by kernel_rfl) (by rfl) (by first | assumption | decide +kernel) (by decide +kernel) ⟨rfl, rfl, rfl, rfl, rfl, by decide +kernel⟩ ?hw ?hc
  case hw => w_witness2
  case hc =>
    refine LamX.walk_ofTsE (l := PySem.Challenge.rw_yourorder_k21_whole_picks_by_no_order) (n := 63) (k := 20) (x := "_law_script") (CX := fun _ => L2.CX0) rfl (by decide) (by kernel_rfl) ⟨rfl, by decide, by decide⟩ ?F (fun _ _ _ _ _ z => z)
    intro w mg fa h Y G hmg0
    obtain ⟨K, KX, c⟩ := Y
    have hmg : mg ("law" : PySem.Str) = some (.ref fa) := by
      have e : (HandSHeadRun.topDef (OpenLaw.row PySem.Challenge.rw_yourorder_k21_whole_picks_by_no_order).prog 32).name = ("law" : PySem.Str) := by kernel_rfl
      rw [← e]
      exact hmg0
    obtain ⟨fd, hb, hF⟩ := Ord.factsL (P := (PySem.Challenge.rw_yourorder_k21_whole_picks_by_no_order).prog) (w := w) KX G hmg c
    refine ⟨K, KX, fd, Ord.tfL.map (He.cT K), _, fun p hp => ?_, fun p hp => ?_, fun p hp => ?_, hb, fun H a ns hl hbits hT hS => ?_, hF⟩
    · obtain ⟨z, hz, rfl⟩ := List.mem_map.mp hp
      exact c.empty z hz
    · obtain ⟨z, hz, rfl⟩ := List.mem_map.mp hp
      exact c.out z hz
    · obtain ⟨z, hz, rfl⟩ := List.mem_map.mp hp
      exact PySem.W.codeHd_of_K KX (c.hd z hz)
    · exact ⟨a, ns, rfl, hS, hl, hT (He.cT K ("law", none)) (List.mem_map.mpr ⟨("law", none), by simp [Ord.tfL], rfl⟩), fun _ => rfl⟩
#print axioms PySem.Challenge.cw_yourorder_k21_whole_picks_by_no_order_holds


