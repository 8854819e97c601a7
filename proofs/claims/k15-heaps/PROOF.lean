import PyProof.Rows.All
import Wide.All
import OpenK.AllK
import Wide.FinOn
import HandS.ForExc
import KE.KLam
import HandS.Comp
import HandS.Lambda
import HandS.Nested
import HandS.Deep
import HandS.Wide
import HandS.Iter
import HandS.IsInst
import HandS.SortRule
import HandS.Head0
import HandS.Head1
import HandS.Head2
import HandS.HeadHook1
import HandS.HeadHook2
import HandS.HeadHook3
import HandS.HeadHook4
import HandS.HeadWalk
import HandS.EndTab
import PySem.Challenge.RW_yourorder_k15_whole_heaps
set_option Elab.async false
set_option linter.all false
set_option maxRecDepth 100000
set_option maxHeartbeats 4000000
namespace Ord
open PySem PySem.Spec PyProof.Rows L2
def top (i : Nat) : Stmt := PySem.Challenge.pw_yourorder_k15_whole_heaps.main.body.getD i (.Pass ⟨0, 0, 0, 0⟩)
abbrev st_OrderError : Stmt := top 1
abbrev st_NoElement : Stmt := top 2
abbrev st_is_heap : Stmt := top 4
abbrev st_push : Stmt := top 5
abbrev st_sunk : Stmt := top 6
abbrev st_pop : Stmt := top 7
abbrev st_heaped : Stmt := top 8
abbrev st__law_cell : Stmt := top 10
abbrev st__law_drawn : Stmt := top 11
abbrev st__law_answer : Stmt := top 12
abbrev st__law_ask : Stmt := top 13
abbrev st__law_log : Stmt := top 14
abbrev st__law_row : Stmt := top 15
abbrev st__law_size : Stmt := top 16
abbrev st__law_sorted : Stmt := top 17
abbrev st__law_is_heap : Stmt := top 18
abbrev st__law_looked : Stmt := top 19
abbrev st__law_pushed : Stmt := top 20
abbrev st__law_popped : Stmt := top 21
abbrev st_law : Stmt := top 22
end Ord

/-! The closure layer: lambdas with parameters and captured cells, handed to defs and called there. -/
namespace Ord
open PySem PySem.Spec PyProof.Rows L2 LamX

/-! ### a thing that is known to the object -/
abbrev Fz (o : Obj) : HO := .frz o (.ext fun _ => True)
theorem fz_ok {P : Program} {w : World} {H : Hp} {h : Heap} {a : Addr} {o : Obj} (e : h.get? a = some o) : ObjOk P w H h a (Fz o) :=
  ⟨e, True.intro, ⟨o, e⟩, fun _ _ _ _ => True.intro⟩
theorem fz_at {P : Program} {w : World} {H : Hp} {h : Heap} {a : Addr} {o : Obj} (hok : HOk P w H h) (e : H a = some (Fz o)) : h.get? a = some o := (hok a _ e).1
theorem upd_none {H : Hp} {a b : Addr} {o : HO} (e : upd H a o b = Option.none) : H b = Option.none := by
  unfold upd at e
  split at e
  · cases e
  · exact e

/-! ### a lambda is made -/
section
variable {X : Cx} {pins : List (Addr × Obj)} {σ : L2.St} {H : Hp} {s : Shared}
theorem inv_fz {o : Obj} {t' : Nat} (I : Inv X pins σ H s) (hf : o.isFreed = false) : Inv X pins σ (upd H s.heap.objs.size (Fz o)) { s with heap := s.heap.push o, toks := t' } :=
  I.laid (a := s.heap.objs.size) (fun b u e => Heap.get?_push_of_some _ e) (Nat.le_refl _) (fz_ok (Heap.get?_push_size _ hf))
theorem lam_make3 {T : List (Addr × Str)} {c P : Addr} {params : Arguments} {body : Expr} {scope : Scope} {pos : Pos} {E : Value → Shared → Prop} {Q : Value → Shared → Prop} (I : Inv X pins σ H s) (TB : TabB X.base X.mg c P) (hcode : X.env.code = .ref c)
    (hm : (P, X.env.qual ++ "<lambda>") ∈ T) (hu : ∀ p ∈ T, p.1 = P → p.2 = X.env.qual ++ "<lambda>") (hT : Tabs T H) (hdef : defaultsOf params X.env = ([], [])) (hfree : ∀ y ∈ scope.names, y.2 = .free → ∃ c, X.env.cells.lookup y.1 = some c)
    (h : ∀ (f c' : Addr) (pm ctv : Value) (H1 : Hp) (s' : Shared), Inv X pins σ H1 s' → ExtN H H1 → (∀ b, H1 b = Option.none → H b = Option.none) → Tabs T H1 → H f = none →
      H1 f = some (Fz (PySem.W.kla_obj "<lambda>" (X.env.qual ++ "<lambda>") params body scope (cloFrom X.env.cells scope.names []) pm c' ctv)) → H1 c' = some (CodeO c' (X.env.qual ++ "<lambda>")) → Q (.ref f) s') :
    wpAny (model X.prog X.w) X.A (eval (.Lambda params body scope pos) X.env) Q E s := by
  obtain ⟨ps, hP, ht, ha⟩ := hT _ hm
  refine PySem.W.kla_eval hdef ?_
  have bP : s.heap.BuiltinsAt X.mg P := TB.bm.keeps I.bk
  have hP' : s.heap.get? P = some { cls := .none, data := .fields ps } := I.hok P _ hP
  cases hc : codeAmong pos ps.toList with
  | none =>
    refine PySem.W.kla_makeFunction (mg := X.mg) (c := c) (P := P) (ps := ps) (closure_ok hfree) I.ok.glob (I.mod.glob.keeps I.bk) hcode (TB.code.keeps I.bk) hP' ht hc TB.gP bP fun c' ctv h' tk hx hge hlt hrec htb => ?_
    obtain ⟨c2, oc, vs, t, e2, hoc, hd, hv⟩ := hrec
    cases e2
    have nC : H c' = none := I.hok.fresh hge
    have I1 := inv_table (t' := tk) (more := #[rawInt pos.line, rawInt pos.col, .ref c']) (h' := h') I hP (fun b o hb e => hx b o hb e) htb hge ⟨oc, vs, t, hoc, hd, hv⟩
    have hE : ExtN H (upd (upd H P (.tbl (ps ++ #[rawInt pos.line, rawInt pos.col, .ref c']))) c' (CodeO c' (X.env.qual ++ "<lambda>"))) := fun b o e n => by
      rw [upd_ne (ne_of_none e nC), upd_ne (fun z => n ps (Option.some.inj (e.symm.trans (by rw [z]; exact hP))))]
      exact e
    have eL : (ps ++ #[rawInt pos.line, rawInt pos.col, .ref c']).toList = ps.toList ++ [rawInt pos.line, rawInt pos.col, .ref c'] := by simp
    have T1 : Tabs T (upd (upd H P (.tbl (ps ++ #[rawInt pos.line, rawInt pos.col, .ref c']))) c' (CodeO c' (X.env.qual ++ "<lambda>"))) := fun p hp => by
      by_cases hb : p.1 = P
      · rw [hu p hp hb, hb]
        refine ⟨_, by rw [upd_ne (ne_of_none hP nC), upd_same], by rw [eL]; exact PySem.TriplesOk_snoc _ _ _ _ ht, fun p' cv hcv => ?_⟩
        rw [eL] at hcv
        rcases among_app _ ht hcv with z | z
        · obtain ⟨c0, e1, e2⟩ := ha p' cv z
          exact ⟨c0, e1, hE _ _ e2 codeO_ne⟩
        · exact ⟨c', z, upd_same⟩
      · obtain ⟨ps', a1, a2, a3⟩ := hT p hp
        refine ⟨ps', by rw [upd_ne (ne_of_none a1 nC), upd_ne hb]; exact a1, a2, fun p' cv hcv => ?_⟩
        obtain ⟨c0, e1, e2⟩ := a3 p' cv hcv
        exact ⟨c0, e1, hE _ _ e2 codeO_ne⟩
    have nF := I1.hok.fresh (Nat.le_refl _)
    have I2 := inv_fz (o := PySem.W.kla_obj "<lambda>" (X.env.qual ++ "<lambda>") params body scope (cloFrom X.env.cells scope.names []) ((X.mg "__name__").getD .none) c' ctv) (t' := tk) I1 rfl
    refine h h'.objs.size c' _ ctv _ _ I2 (fun b o e n => ?_) (fun b e => upd_none (upd_none (upd_none e))) (T1.ext fun b o e => ?_) (I.hok.fresh (Nat.le_trans hge (Nat.le_of_lt hlt))) upd_same ?_
    · have e1 := hE b o e n
      exact (upd_ne (ne_of_none e1 nF)).trans e1
    · exact (upd_ne (ne_of_none e nF)).trans e
    · exact (upd_ne (Nat.ne_of_lt hlt)).trans upd_same
  | some cv =>
    obtain ⟨c', e, hco⟩ := ha pos cv hc
    subst e
    refine PySem.W.kla_makeFunctionHit (mg := X.mg) (c := c) (P := P) (ps := ps) (closure_ok hfree) I.ok.glob (I.mod.glob.keeps I.bk) hcode (TB.code.keeps I.bk) hP' ht hc bP fun ctv h' tk hx hsz => ?_
    have I1 : Inv X pins σ H { s with heap := h', toks := tk } := I.kept hx
    have nF : H h'.objs.size = none := I1.hok.fresh (Nat.le_refl _)
    have I2 := inv_fz (o := PySem.W.kla_obj "<lambda>" (X.env.qual ++ "<lambda>") params body scope (cloFrom X.env.cells scope.names []) ((X.mg "__name__").getD .none) c' ctv) (t' := tk) I1 rfl
    refine h h'.objs.size c' _ ctv _ _ I2 (fun b o e n => ?_) (fun b e => upd_none e) (hT.ext fun b o e => ?_) nF upd_same ?_
    · exact (upd_ne (ne_of_none e nF)).trans e
    · exact (upd_ne (ne_of_none e nF)).trans e
    · exact (upd_ne (ne_of_none hco nF)).trans hco
end
/-- the reading of a lambda's making -/
def tLamV (T : List (Addr × Str)) (mk : Value → Addr → Value → Obj) (q : Str) : TE := fun _ H Q => Tabs T H ∧ ∀ (f c' : Addr) (pm ctv : Value) (H1 : Hp), ExtN H H1 → (∀ b, H1 b = Option.none → H b = Option.none) → Tabs T H1 → H f = none →
  H1 f = some (Fz (mk pm c' ctv)) → H1 c' = some (CodeO c' q) → Q (.ref f) H1
theorem pe_lam {X : Cx} {T : List (Addr × Str)} {c P : Addr} {params : Arguments} {body : Expr} {scope : Scope} {pos : Pos} {q : Str} (hq : X.env.qual ++ "<lambda>" = q) (TB : TabB X.base X.mg c P) (hcode : X.env.code = .ref c)
    (hm : (P, q) ∈ T) (hu : ∀ p ∈ T, p.1 = P → p.2 = q) (hdef : defaultsOf params X.env = ([], []))
    (hfree : ∀ y ∈ scope.names, y.2 = .free → X.env.scope.names.lookup y.1 = some .cell ∨ X.env.scope.names.lookup y.1 = some .free) :
    PE X (.Lambda params body scope pos) (tLamV T (fun pm c' ctv => PySem.W.kla_obj "<lambda>" q params body scope (cloFrom X.env.cells scope.names []) pm c' ctv) q) := by
  subst hq
  refine ⟨fun pins s σ H Q I h => ?_⟩
  obtain ⟨hT, h⟩ := h
  exact lam_make3 I TB hcode hm hu hT hdef (fun y hy e => (hfree y hy e).elim (fun z => I.ok.has _ (.inl z)) fun z => I.ok.has _ (.inr z)) fun f c' pm ctv H1 s' I1 eN nn T1 f0 f1 c1 =>
    ⟨.ref f, H1, I1, rfl, h f c' pm ctv H1 eN nn T1 f0 f1 c1⟩

/-! ### a function value and its promise -/
def IsFz (H : Hp) (f : Addr) : Prop := ∃ (oc : Value) (od : Option Addr) (fd : FuncData) (sl : Array (Option Value)), H f = some (Fz ⟨oc, od, .func fd, sl⟩)
theorem fnAt_fz {P : Program} {w : World} {H : Hp} {h : Heap} {f : Addr} (hok : HOk P w H h) (e : IsFz H f) : PySem.W.FnAt f h := by
  obtain ⟨oc, od, fd, sl, e⟩ := e
  exact ⟨oc, od, fd, sl, fz_at hok e⟩
/-- calling the function at f with positional arguments keeps sp -/
structure FnV (P : Program) (w : World) (K : PySem.W.Frag) (mg : Str → Option Value) (base : Heap) (k : Nat) (f : Addr) (sp : Sp) : Prop where
  run : ∀ (A : Around) (outer : List Env) (s : Shared) (H : Hp) (us : List Value) (vs : List V) (Q : VK), Room k A → Env0 P w K mg base A outer s H → Vals vs us → sp vs H Q E0 →
    codeAny (model P w) A (.call (.ref f) ⟨us, []⟩) (CR CX0 outer P w H s Q E0) s
theorem FnV.mono {P : Program} {w : World} {K : PySem.W.Frag} {mg : Str → Option Value} {base : Heap} {j k : Nat} {f : Addr} {sp : Sp} (F : FnV P w K mg base j f sp) (h : j ≤ k) : FnV P w K mg base k f sp :=
  ⟨fun A outer s H us vs Q hr => F.run A outer s H us vs Q (hr.mono h)⟩
section
variable {X : Cx} {k : Nat} {f : Addr} {sp : Sp} {e : Expr} {es : List Expr} {t : TA} {x : Str} {p pos : Pos} {i : Nat}
theorem run_v {pins : List (Addr × Obj)} {σ : L2.St} {H : Hp} {s : Shared} {Q : VK} {us : List Value} {vs : List V} (F : FnV X.prog X.w X.K X.mg X.base k f sp) (hr : Room k X.A) (I : Inv X pins σ H s) (r : Vals vs us) (h : sp vs H Q E0) :
    wpAny (model X.prog X.w) X.A (call (.ref f) us) (EP X pins σ Q) X.xe s := by
  refine wpAny_call (codeAny_mono (F.run X.A X.stack s H us vs Q hr I.env0 r h) fun r s' hq => ?_)
  cases r with
  | error e => exact False.elim hq
  | ok fl =>
    cases fl with
    | ret u => exact I.after hq
    | next => exact False.elim hq
    | brk => exact False.elim hq
    | cont => exact False.elim hq
/-- x(e, ..), x a name of the def that holds a function -/
def tCallV (i : Nat) (f : Addr) (sp : Sp) (t : TA) : TE := fun σ H Q => σ[i]? = some (some (.ref f)) ∧ IsFz H f ∧ t σ H fun vs H1 => IsFz H1 f ∧ sp vs H1 Q E0
theorem pe_callV (F : FnV X.prog X.w X.K X.mg X.base k f sp) (hr : Room k X.A) (ha : PA X (e :: es) t) (hN : X.N[i]? = some x := by rfl) (hv : Vis X.env.scope x := by first | exact Or.inl rfl | exact Or.inr (Or.inl rfl) | exact Or.inr (Or.inr rfl))
    (hd : (x == ("__debug__" : Str)) = false := by decide) (hcd : (x == ("__classdict__" : Str)) = false := by decide)
    (he : starEach (e :: es) X.env = (false, eval e X.env) :: starEach es X.env := by rfl) (hpl : (backTo pos (starEach es X.env)).any (·.1) = false := by rfl) :
    PE X (.Call (.Name x p) (e :: es) [] pos) (tCallV i f sp t) := by
  refine ⟨fun pins s σ H Q I h => ?_⟩
  obtain ⟨hs, hf, ht⟩ := h
  refine wpAny_Call_Name_kw (thn ((pe_var (pos := p) hN hv hd hcd).run pins s σ H (fun v H1 => v = .ref f ∧ H1 = H) I ⟨.ref f, hs, rfl, rfl⟩) fun u s1 ⟨v, H1, I1, r1, q1⟩ => ?_)
  obtain ⟨ev, eH⟩ := q1
  subst ev
  rw [eH] at I1
  obtain rfl : u = Value.ref f := r1
  exact PySem.W.callWith_F (first := []) (fnAt_fz I1.hok hf) (thn (ha.run pos pins s1 σ H _ I1 ht) fun us s2 ⟨vs, H2, I2, r, h1, q⟩ => ⟨fnAt_fz I2.hok h1, run_v F hr I2 r q⟩) he hpl
end
/-! ### o.f(e, ..), f a field that holds a function -/
theorem method_field {prog : Program} {w : World} {A : Around} {s : Shared} {K : PySem.W.Frag} {x C : Addr} {ox : Obj} {od : Option Obj} {name : Str} {pl : Sem Bool} {E : Value → Shared → Prop} {Q : Value × List Value → Shared → Prop}
    (X : K.In s.heap) (I : PySem.W.InstAt s.heap x ox C od) (hga : PySem.W.findIn K (.ref C) "__getattribute__" = some (some (.builtin "object.__getattribute__"))) (hk : PySem.W.findIn K (.ref C) "__getattr__" = some none)
    (hf : PySem.W.findIn K (.ref C) name = some none) (h : wpAny (model prog w) A (getAttr (.ref x) name) (fun v s' => Q (v, []) s') E s) :
    wpAny (model prog w) A (getMethod (.ref x) name pl) Q E s := by
  have hcan := PySem.F.canon_object_ga
  unfold getMethod specialOf
  refine wpAny_bind (wpAny_bind (I.type.here ((PySem.W.looks_findIn X hga).here ?_)))
  dsimp only
  rw [hcan, if_neg (by decide)]
  refine wpAny_bind (wpAny_bind (I.type.here ((PySem.W.looks_findIn X hk).here ?_)))
  refine wpAny_bind (wpAny_bind (I.type.here ((PySem.W.looks_findIn X hf).here ?_)))
  exact wpAny_bind (wpAny_mono h (fun v s' q => wpAny_pure q) fun _ _ z => z)
theorem getfn_ok {X : Cx} {pins : List (Addr × Obj)} {σ : L2.St} {H : Hp} {s : Shared} {a C dx f : Addr} {fs : List (Str × V)} {m : Str} {pl : Sem Bool} {E : Value → Shared → Prop} {Q : Value × List Value → Shared → Prop} (I : Inv X pins σ H s) (e : H a = some (.ins C dx fs)) (c : Cls X.K C) (n : NoAttr X.K C m)
    (l : fs.lookup m = some (.ref f)) (h : ∀ s', Inv X pins σ H s' → Q (.ref f, []) s') : wpAny (model X.prog X.w) X.A (getMethod (.ref a) m pl) Q E s := by
  obtain ⟨mA, O, r, _, _, _⟩ := ins_get I.hok e
  obtain ⟨od, J, hl⟩ := O.look
  refine method_field I.kIn J (PySem.W.plainGet_of (c.get m)).1 (PySem.W.plainGet_of (c.get m)).2 n ?_
  refine getattr_ok I e c n l fun u s' I' ru => ?_
  obtain rfl : u = Value.ref f := ru
  exact h s' I'
section
variable {X : Cx} {k : Nat} {f C : Addr} {sp : Sp} {o e : Expr} {es : List Expr} {ta : TE} {t : TA} {m : Str} {apos pos : Pos}
def tCallF (K : PySem.W.Frag) (m : Str) (f : Addr) (sp : Sp) (ta : TE) (t : TA) : TE := fun σ H Q => ta σ H fun x H1 => ∃ a C dx fs, x = .ref a ∧ H1 a = some (.ins C dx fs) ∧ Cls K C ∧ NoAttr K C m ∧ fs.lookup m = some (.ref f) ∧ IsFz H1 f ∧
  t σ H1 fun vs H2 => IsFz H2 f ∧ sp vs H2 Q E0
theorem pe_callF {pl : Sem Bool} (he : PE X o ta) (F : FnV X.prog X.w X.K X.mg X.base k f sp) (hr : Room k X.A) (ha : PA X (e :: es) t)
    (hst : starEach (e :: es) X.env = (false, eval e X.env) :: starEach es X.env := by rfl) (hpl : (backTo pos (starEach es X.env)).any (·.1) = false := by rfl)
    (ht : eval (.Call (.Attribute o m apos) (e :: es) [] pos) X.env = (do
      let ov ← eval o X.env
      standAt apos.atName
      let (f, first) ← holding [ov] (getMethod ov m pl)
      callWith pos f first (backTo pos (starEach (e :: es) X.env)) (backToKw pos (keywordEach [] X.env))) := by rfl) :
    PE X (.Call (.Attribute o m apos) (e :: es) [] pos) (tCallF X.K m f sp ta t) := by
  refine ⟨fun pins s σ H Q I h => ?_⟩
  refine PySem.W.methodCall_KW (pl := pl) (thn (he.run pins s σ H _ I h) fun u s1 ⟨x, H1, I1, rx, a, C, dx, fs, ex, ea, c, n, l, hf, q⟩ => ?_) ht
  subst ex
  obtain rfl : u = Value.ref a := rx
  refine getfn_ok I1 ea c n l fun s1' I1' => ?_
  exact PySem.W.callWith_F (first := []) (fnAt_fz I1'.hok hf) (thn (ha.run pos pins s1' σ H1 _ I1' q) fun us s2 ⟨vs, H2, I2, r, h1, q2⟩ => ⟨fnAt_fz I2.hok h1, run_v F hr I2 r q2⟩) hst hpl
end

/-! ### the maker's cells, lent for a call -/
def strip (cs : List (Str × Addr)) (H : Hp) : Hp := fun b => if b ∈ cs.map (·.2) then none else H b
theorem strip_out {cs : List (Str × Addr)} {H : Hp} {b : Addr} (h : b ∉ cs.map (·.2)) : strip cs H b = H b := if_neg h
theorem strip_in {cs : List (Str × Addr)} {H : Hp} {b : Addr} (h : b ∈ cs.map (·.2)) : strip cs H b = none := if_pos h
theorem strip_some {cs : List (Str × Addr)} {H : Hp} {b : Addr} {o : HO} (h : strip cs H b = some o) : b ∉ cs.map (·.2) ∧ H b = some o := by
  by_cases hb : b ∈ cs.map (·.2)
  · rw [strip_in hb] at h
    cases h
  · rw [strip_out hb] at h
    exact ⟨hb, h⟩
/-- the cell at c holds v -/
def CellV (H : Hp) (c : Addr) (v : V) : Prop := ∃ (o : Obj) (u : Value), H c = some (Fz o) ∧ o.data = .cell (some u) ∧ RelV v u
/-- H2 is H with the cells cs lent; what the slots of captured names hold stands in them -/
structure Lent (X : Cx) (σ : L2.St) (H H2 : Hp) : Prop where
  out : ∀ b, b ∉ X.env.cells.map (·.2) → H2 b = H b
  none_ : ∀ b, b ∈ X.env.cells.map (·.2) → H b = none
  fz : ∀ b, b ∈ X.env.cells.map (·.2) → ∃ (o : Obj) (v : Option Value), H2 b = some (Fz o) ∧ o.data = .cell v
  inj : ∀ x y c, X.env.cells.lookup x = some c → X.env.cells.lookup y = some c → x = y
  has : ∀ x, (X.env.scope.names.lookup x = some .cell ∨ X.env.scope.names.lookup x = some .free) → ∃ c, X.env.cells.lookup x = some c
  val : ∀ (i : Nat) (x : Str) (v : V), X.N[i]? = some x → σ[i]? = some (some v) → (X.env.scope.names.lookup x = some .cell ∨ X.env.scope.names.lookup x = some .free) → ∃ c, X.env.cells.lookup x = some c ∧ CellV H2 c v
theorem Lent.keep {X : Cx} {σ : L2.St} {H H2 : Hp} (L : Lent X σ H H2) {b : Addr} {o : HO} (e : H b = some o) : H2 b = some o := by
  have hb : b ∉ X.env.cells.map (·.2) := fun z => by
    rw [L.none_ b z] at e
    cases e
  rw [L.out b hb]
  exact e
theorem lookup_mem2 {cs : List (Str × Addr)} {x : Str} {c : Addr} (e : cs.lookup x = some c) : c ∈ cs.map (·.2) := List.mem_map.mpr ⟨_, PySem.mem_of_lookup e, rfl⟩
/-- no name stands twice among the cells -/
def UniqC (cs : List (Str × Addr)) : Prop := ∀ b, b ∈ cs.map (·.2) → ∃ x, cs.lookup x = some b
section
variable {X : Cx} {pins : List (Addr × Obj)} {σ : L2.St} {H : Hp} {s s' : Shared}
def lendH (X : Cx) (s : Shared) (H : Hp) : Hp := fun b => if b ∈ X.env.cells.map (·.2) then (s.heap.get? b).map Fz else H b
theorem cell_at (I : Inv X pins σ H s) (un : UniqC X.env.cells) {b : Addr} (hb : b ∈ X.env.cells.map (·.2)) : H b = none ∧ ∃ (o : Obj) (v : Option Value), s.heap.get? b = some o ∧ o.data = .cell v := by
  obtain ⟨x, hx⟩ := un b hb
  obtain ⟨v, o, ho, hd⟩ := I.cell x b hx
  exact ⟨I.freeC x b hx, o, v, ho, hd⟩
theorem lendH_in (I : Inv X pins σ H s) {b : Addr} {o : Obj} (hb : b ∈ X.env.cells.map (·.2)) (ho : s.heap.get? b = some o) : lendH X s H b = some (Fz o) := by
  unfold lendH
  rw [if_pos hb, ho]
  rfl
theorem lendH_out {b : Addr} (hb : b ∉ X.env.cells.map (·.2)) : lendH X s H b = H b := if_neg hb
theorem lendH_ok (I : Inv X pins σ H s) (un : UniqC X.env.cells) : HOk X.prog X.w (lendH X s H) s.heap := by
  intro b u e
  by_cases hb : b ∈ X.env.cells.map (·.2)
  · obtain ⟨_, o, v, ho, _⟩ := cell_at I un hb
    rw [lendH_in I hb ho] at e
    cases e
    exact fz_ok ho
  · rw [lendH_out hb] at e
    have kp : ∀ c y, H c = some y → lendH X s H c = some y := fun c y z => by
      have hc : c ∉ X.env.cells.map (·.2) := fun q => by
        rw [(cell_at I un q).1] at z
        cases z
      rw [lendH_out hc]
      exact z
    exact (I.hok b u e).stay (fun _ _ _ q => q) (fun c q => kp c _ q) fun c xs q => kp c _ q
theorem lendH_lent (I : Inv X pins σ H s) (un : UniqC X.env.cells) : Lent X σ H (lendH X s H) := by
  refine ⟨fun b hb => lendH_out hb, fun b hb => (cell_at I un hb).1, fun b hb => ?_, I.ok.inj, fun x hk => I.ok.has x hk, fun i x v hN hs hk => ?_⟩
  · obtain ⟨_, o, v, ho, hd⟩ := cell_at I un hb
    exact ⟨o, v, lendH_in I hb ho, hd⟩
  · obtain ⟨m, hn, hl⟩ := I.loc
    obtain ⟨u, r, l⟩ := hl i x v hN hs (hk.elim (fun z => .inr (.inl z)) fun z => .inr (.inr z))
    rcases l with ⟨z, _⟩ | ⟨_, c, hc, o, ho, hd⟩
    · have z' : X.env.scope.names.lookup x = some .local := z
      rcases hk with k | k <;> rw [k] at z' <;> cases z'
    · exact ⟨c, hc, o, u, lendH_in I (lookup_mem2 hc) ho, hd, r⟩
theorem lend_env0 (I : Inv X pins σ H s) (un : UniqC X.env.cells) (hfn : ∀ x, X.fn x = true) : Env0 X.prog X.w X.K X.mg X.base X.A X.stack s (lendH X s H) := by
  have e0 := I.env0
  have ncell : ∀ b o, X.base.get? b = some o → b ∉ X.env.cells.map (·.2) := fun b o e hb => by
    obtain ⟨x, hx⟩ := un b hb
    exact absurd (Nat.lt_of_lt_of_le (Heap.lt_size (I.ok.bs b o e).1) (I.ok.cab x b (hfn x) hx)) (Nat.lt_irrefl _)
  refine ⟨e0.frames, e0.mod, fun b o e => ⟨(e0.bs b o e).1, by rw [lendH_out (ncell b o e)]; exact (e0.bs b o e).2⟩, e0.bsz, e0.funs, fun b hb => ?_, lendH_ok I un, e0.bare⟩
  have nb : b ∉ X.env.cells.map (·.2) := fun z => by
    rcases List.mem_cons.mp (I.stkSub b hb) with e | e
    · obtain ⟨x, hx⟩ := un b z
      exact I.cne x b hx e
    · obtain ⟨x, hx⟩ := un b z
      obtain ⟨_, o, ho, _⟩ := I.ok.funs.mem e
      exact absurd (Nat.lt_of_lt_of_le (Heap.lt_size ho) (I.ok.cab x b (hfn x) hx)) (Nat.lt_irrefl _)
  rw [lendH_out nb]
  exact e0.frf b hb
/-- behind a call with the cells lent -/
theorem lent_after {Q : VK} {u : Value} (I : Inv X pins σ H s) (un : UniqC X.env.cells) (h : CE X.stack X.prog X.w (lendH X s H) s (fun v H3 => Q v (strip X.env.cells H3)) u s') : EP X pins σ Q u s' := by
  obtain ⟨v, H3, os, bare, U, hok, r, q⟩ := h
  have cellIn : ∀ b, b ∈ X.env.cells.map (·.2) → ∃ o, s.heap.get? b = some o ∧ H3 b = some (Fz o) ∧ s'.heap.get? b = some o := fun b hb => by
    obtain ⟨_, o, v, ho, _⟩ := cell_at I un hb
    have e3 := U.frzs b o _ (lendH_in I hb ho)
    exact ⟨o, ho, e3, fz_at hok e3⟩
  have nIn : ∀ b y, H b = some y → b ∉ X.env.cells.map (·.2) := fun b y z q => by
    rw [(cell_at I un q).1] at z
    cases z
  have nFr : ∀ b, b ∈ X.env.cells.map (·.2) → ∀ y, strip X.env.cells H3 b ≠ some y := fun b hb y z => (strip_some z).1 hb
  have U4 : Un (frs X.stack) [] H (strip X.env.cells H3) s.heap s'.heap := by
    refine ⟨fun b o e n hf hx => ?_, fun b o e n hf hx => ?_, fun b o e n hx => ?_, U.there, fun b xs e => ?_, fun b o y e => ?_, fun b ps e => ?_⟩
    · by_cases hb : b ∈ X.env.cells.map (·.2)
      · obtain ⟨o', e1, _, e3⟩ := cellIn b hb
        rw [e] at e1
        cases e1
        exact e3
      · exact U.keep b o e (by rw [lendH_out hb]; exact n) hf hx
    · by_cases hb : b ∈ X.env.cells.map (·.2)
      · obtain ⟨o', e1, _, e3⟩ := cellIn b hb
        rw [e] at e1
        cases e1
        exact ⟨o.slots, e3⟩
      · exact U.slot b o e (by rw [lendH_out hb]; exact n) hf hx
    · by_cases hb : b ∈ X.env.cells.map (·.2)
      · exact strip_in hb
      · rw [strip_out hb]
        exact U.free b o e (by rw [lendH_out hb]; exact n) hx
    · have hb := nIn b _ e
      rw [strip_out hb]
      exact U.tups b xs (by rw [lendH_out hb]; exact e)
    · have hb := nIn b _ e
      rw [strip_out hb]
      exact U.frzs b o y (by rw [lendH_out hb]; exact e)
    · have hb := nIn b _ e
      rw [strip_out hb]
      exact U.tbls b ps (by rw [lendH_out hb]; exact e)
  have hok4 : HOk X.prog X.w (strip X.env.cells H3) s'.heap := by
    intro b y e
    obtain ⟨hb, e⟩ := strip_some e
    have kp : ∀ c z, H3 c = some z → (∀ o, z ≠ Fz o) → strip X.env.cells H3 c = some z := fun c z hz nz => by
      have hc : c ∉ X.env.cells.map (·.2) := fun q => by
        obtain ⟨o, _, e3, _⟩ := cellIn c q
        rw [e3] at hz
        exact nz o (Option.some.inj hz).symm
      rw [strip_out hc]
      exact hz
    exact (hok b y e).stay (fun _ _ _ q => q) (fun c q => kp c _ q fun o z => by cases z) fun c xs q => kp c _ q fun o z => by cases z
  obtain ⟨hh, g, d, t, os'⟩ := s'
  obtain rfl : os' = s.os := os
  exact ⟨v, strip X.env.cells H3, I.call (h' := hh) (g' := g) (d' := d) (t' := t) (ch := []) U4 hok4 bare (fun b z => absurd z (by simp)), r, q⟩
end
/-! ### calls with the cells lent -/
def lentQ (X : Cx) (Q : VK) : VK := fun v H3 => Q v (strip X.env.cells H3)
def tCallLent (X : Cx) (sp : Sp) (t : TA) : TE := fun σ H Q => t σ H fun vs H1 => ∀ H2, Lent X σ H1 H2 → sp vs H2 (lentQ X Q) E0
def tMethLent (X : Cx) (C : Addr) (m : Str) (sp : Sp) (ta : TE) (t : TA) : TE := fun σ H Q => ta σ H fun x H1 => ∃ a dx fs, x = .ref a ∧ H1 a = some (.ins C dx fs) ∧ fs.lookup m = none ∧
  t σ H1 fun vs H2 => ∀ H3, Lent X σ H2 H3 → sp (x :: vs) H3 (lentQ X Q) E0
section
variable {X : Cx} {k : Nat} {f C : Addr} {fd : FuncData} {ps : List Str} {sp : Sp} {x m : Str} {p pos apos : Pos} {e o : Expr} {es : List Expr} {ta : TE} {t : TA}
theorem run_lent {CX : CXT} {pins : List (Addr × Obj)} {σ : L2.St} {H : Hp} {s : Shared} {Q : VK} {us : List Value} {vs : List V} (F : FnOk X.prog X.w X.K X.mg X.base CX k f fd ps sp) (hr : Room k X.A) (hb : Binds X.K fd ps []) (un : UniqC X.env.cells) (hfn : ∀ x, X.fn x = true)
    (hCX : ∀ H s e s', CX X.stack H s E0 e s' → False) (I : Inv X pins σ H s) (r : Vals vs us) (h : ∀ H2, Lent X σ H H2 → sp vs H2 (lentQ X Q) E0) : wpAny (model X.prog X.w) X.A (call (.ref f) us) (EP X pins σ Q) X.xe s := by
  have hq := h (lendH X s H) (lendH_lent I un)
  have hl : us.length = ps.length := by rw [← r.length]; exact F.len _ _ _ _ hq
  have hbt := hb s us I.kIn (by rw [List.append_nil]; exact hl)
  rw [List.append_nil] at hbt
  refine wpAny_call (codeAny_mono (F.run X.A X.stack s (lendH X s H) ⟨us, []⟩ us vs _ E0 hr (lend_env0 I un hfn) hbt r hq) fun r s' hq => ?_)
  cases r with
  | error e => exact (hCX _ _ _ _ hq).elim
  | ok fl =>
    cases fl with
    | ret u => exact lent_after I un hq
    | next => exact False.elim hq
    | brk => exact False.elim hq
    | cont => exact False.elim hq
theorem pe_callLent {CX : CXT} (F : FnOk X.prog X.w X.K X.mg X.base CX k f fd ps sp) (hr : Room k X.A) (hg : Gl X x) (hm : X.mg x = some (.ref f)) (hk : PySem.W.keepIn X.K (.ref f) = true) (hb : Binds X.K fd ps []) (un : UniqC X.env.cells) (hfn : ∀ x, X.fn x = true)
    (hCX : ∀ H s e s', CX X.stack H s E0 e s' → False) (ha : PA X (e :: es) t) (hdb : (x == ("__debug__" : Str)) = false := by decide) (he : starEach (e :: es) X.env = (false, eval e X.env) :: starEach es X.env := by rfl) (hpl : (backTo pos (starEach es X.env)).any (·.1) = false := by rfl) :
    PE X (.Call (.Name x p) (e :: es) [] pos) (tCallLent X sp t) := by
  refine ⟨fun pins s σ H Q I h => ?_⟩
  refine wpAny_Call_Name_kw (ld_glob I hg hm ?_ hdb)
  refine PySem.W.callWith_K (h₀ := X.base) I.ok.mod.kin hk (thn (ha.run pos pins s σ H _ I h) fun us s1 ⟨vs, H1, I1, r, q⟩ => ⟨I1.kIn, ?_⟩) he hpl
  exact run_lent F hr hb un hfn hCX I1 r q
theorem pe_methLent {CX : CXT} {pl : Sem Bool} (he : PE X o ta) (c : Cls X.K C) (hm : Meth X.K C m f) (F : FnOk X.prog X.w X.K X.mg X.base CX k f fd ps sp) (hr : Room k X.A) (hb : Binds X.K fd ps []) (un : UniqC X.env.cells) (hfn : ∀ x, X.fn x = true)
    (hCX : ∀ H s e s', CX X.stack H s E0 e s' → False) (ha : PA X (e :: es) t)
    (hst : starEach (e :: es) X.env = (false, eval e X.env) :: starEach es X.env := by rfl) (hpl : (backTo pos (starEach es X.env)).any (·.1) = false := by rfl)
    (ht : eval (.Call (.Attribute o m apos) (e :: es) [] pos) X.env = (do
      let ov ← eval o X.env
      standAt apos.atName
      let (f, first) ← holding [ov] (getMethod ov m pl)
      callWith pos f first (backTo pos (starEach (e :: es) X.env)) (backToKw pos (keywordEach [] X.env))) := by rfl) :
    PE X (.Call (.Attribute o m apos) (e :: es) [] pos) (tMethLent X C m sp ta t) := by
  refine ⟨fun pins s σ H Q I h => ?_⟩
  refine PySem.W.methodCall_KW (pl := pl) (thn (he.run pins s σ H _ I h) fun u s1 ⟨x, H1, I1, rx, a, dx, fs, ex, ea, l, q⟩ => ?_) ht
  subst ex
  obtain rfl : u = Value.ref a := rx
  refine getmeth_ok I1 ea c hm l ?_
  refine PySem.W.callWith_K (first := [.ref a]) (h₀ := X.base) I.ok.mod.kin hm.kp (thn (ha.run pos pins s1 σ H1 _ I1 q) fun us s2 ⟨vs, H2, I2, r, q2⟩ => ⟨I2.kIn, ?_⟩) hst hpl
  exact run_lent (us := .ref a :: us) (vs := .ref a :: vs) F hr hb un hfn hCX I2 (.cons rfl r) q2
end

/-! ### a lambda's body -/
/-- the captured cells: lent, and what they hold -/
structure ClosAt (cl : List (Str × Addr)) (fr : List Str) (ws : List (Option V)) (H : Hp) : Prop where
  len : ws.length = fr.length
  all : ∀ b, b ∈ cl.map (·.2) → ∃ (o : Obj) (v : Option Value), H b = some (Fz o) ∧ o.data = .cell v
  inj : ∀ x y c, cl.lookup x = some c → cl.lookup y = some c → x = y
  has : ∀ (i : Nat) (y : Str), fr[i]? = some y → ∃ c, cl.lookup y = some c ∧ ∀ v, ws[i]? = some (some v) → CellV H c v
/-- H' with the cells of H put back -/
def relend (cs : List (Str × Addr)) (H H' : Hp) : Hp := fun b => if b ∈ cs.map (·.2) then H b else H' b
abbrev lamNF (q : Str) (params : Arguments) (scope : Scope) (cl : List (Str × Addr)) (c' : Addr) : NdefX.NF := ⟨"<lambda>", q, params, [], scope, cl, c'⟩
section
variable {P : Program} {w : World} {K : PySem.W.Frag} {mg : Str → Option Value} {base : Heap} {N ps fr : List Str} {k : Nat}
theorem fnv_lam {params : Arguments} {body : Expr} {scope : Scope} {cl : List (Str × Addr)} {pm ctv : Value} {c' f : Addr} {q : Str} {sp : Sp} {ws : List (Option V)} (S : NdefX.NScope N ps fr scope)
    (hb : ∀ us : List Value, us.length = ps.length → bindArgs (PySem.W.kla_fn "<lambda>" q params body scope cl pm (.ref c') ctv) ⟨us, []⟩ = pure (ps.zip us))
    (hsp : ∀ vs H Q, sp vs H Q E0 → vs.length = ps.length ∧ H f = some (Fz (PySem.W.kla_obj "<lambda>" q params body scope cl pm c' ctv)) ∧ H c' = some (CodeO c' q) ∧ ClosAt cl fr ws H)
    (hbody : ∀ (A : Around) (outer : List Env) (s : Shared) (H : Hp) (vs : List V) (Q : VK), Room k (A.deeper (NdefX.envF (lamNF q params scope cl c') f s.heap.objs.size)) → sp vs H Q E0 →
      ∃ t, PE (NdefX.ncx CX0 P w K mg base N (lamNF q params scope cl c') f A outer s (strip cl H) E0).nox body t ∧ t (NdefX.startF N vs ws) (strip cl H) fun v H' => (∀ b, b ∈ cl.map (·.2) → H' b = Option.none) → Q v (relend cl H H')) :
    FnV P w K mg base (k + 1) f sp := by
  refine ⟨fun A outer s H us vs Q hr e0 r h => ?_⟩
  obtain ⟨hl, hf, hc, C⟩ := hsp vs H Q h
  have lim : s.heap.NoLimit := e0.mod.nolimit.keeps fun b o e => (e0.bs b o e).1
  have of1 := fz_at e0.hok hf
  obtain ⟨⟨oc, ys, tq, hoc, hdc, hvc⟩, _, _⟩ := e0.hok c' _ hc
  refine PySem.W.kla_callFunE hr.depth of1 rfl S.co S.gen rfl ⟨c', oc, ys, tq, rfl, hoc, hdc, hvc⟩ ?_
  rw [hb us (by rw [← r.length]; exact hl)]
  refine wpAny_pure (wpAny_newFunctionEnv S.nocell (fun ⟨n, _⟩ hy => S.par n (List.of_mem_zip hy).1) (fun h₁ hns hsb => ⟨lim.fresh _ hsb, ?_⟩) S.kind)
  show codeAny _ _ (.expr body (NdefX.envF (lamNF q params scope cl c') f s.heap.objs.size)) _ _
  have kp : ∀ b o, s.heap.get? b = some o → h₁.get? b = some o := fun b o e => hsb.extBut b o (Nat.ne_of_lt (Heap.lt_size e)) (Heap.get?_push_of_some _ e)
  obtain ⟨t, ht, hq⟩ := hbody A outer s H vs Q (hr.deeper _) h
  -- the state without the captured cells
  have cellAt : ∀ b, b ∈ cl.map (·.2) → ∃ (o : Obj) (v : Option Value), H b = some (Fz o) ∧ s.heap.get? b = some o ∧ o.data = .cell v := fun b hb => by
    obtain ⟨o, v, e, hd⟩ := C.all b hb
    exact ⟨o, v, e, fz_at e0.hok e, hd⟩
  have kS : ∀ c z, H c = some z → (∀ o, z ≠ Fz o) → strip cl H c = some z := fun c z hz nz => by
    have hc : c ∉ cl.map (·.2) := fun q => by
      obtain ⟨o, _, e3, _⟩ := C.all c q
      rw [e3] at hz
      exact nz o (Option.some.inj hz).symm
    rw [strip_out hc]
    exact hz
  have hokS : HOk P w (strip cl H) s.heap := fun b y e => by
    obtain ⟨_, e⟩ := strip_some e
    exact (e0.hok b y e).stay (fun _ _ _ q => q) (fun c q => kS c _ q fun o z => by cases z) fun c xs q => kS c _ q fun o z => by cases z
  have nS : ∀ b, H b = none → strip cl H b = none := fun b e => by
    by_cases hb : b ∈ cl.map (·.2)
    · exact strip_in hb
    · rw [strip_out hb]
      exact e
  have e1 : Env0 P w K mg base A outer s (strip cl H) := ⟨e0.frames, e0.mod, fun b o e => ⟨(e0.bs b o e).1, nS b (e0.bs b o e).2⟩, e0.bsz, e0.funs, fun b hb => nS b (e0.frf b hb), hokS, e0.bare⟩
  have CA : NdefX.CellsAt cl fr ws s.heap (strip cl H) := by
    refine ⟨C.len, fun y c e => ?_, C.inj, fun i y e => ?_⟩
    · obtain ⟨o, v, _, e2, e3⟩ := cellAt c (lookup_mem2 e)
      exact ⟨strip_in (lookup_mem2 e), v, o, e2, e3⟩
    · obtain ⟨c, hc, hv⟩ := C.has i y e
      refine ⟨c, hc, fun v ev => ?_⟩
      obtain ⟨o, u, e2, e3, ru⟩ := hv v ev
      exact ⟨u, ru, o, fz_at e0.hok e2, e3⟩
  have I : Inv (NdefX.ncx CX0 P w K mg base N (lamNF q params scope cl c') f A outer s (strip cl H) E0) [] (NdefX.startF N vs ws) (strip cl H) { s with heap := h₁, toks := s.toks + (ps.zip us).length } :=
    NdefX.inv_startN S hr.hd e1 hl r CA hns kp
  refine PySem.W.kla_codeExpr (wpAny_mono (ht.nox.run [] _ (NdefX.startF N vs ws) (strip cl H) _ I hq) (fun u s' hs => ?_) fun e s' hs => wpAny_mono hs (fun _ _ z => z.elim) fun _ _ z => z.elim)
  obtain ⟨v, H', J, rv, qv⟩ := hs
  have U : Un (frs outer) [] (strip cl H) H' s.heap s'.heap := J.base
  have cellLater : ∀ b, b ∈ cl.map (·.2) → ∃ o, H b = some (Fz o) ∧ s'.heap.get? b = some o := fun b hb => by
    obtain ⟨o, v, e1, e2, _⟩ := cellAt b hb
    refine ⟨o, e1, U.keep b o e2 (strip_in hb) (fun z => ?_) (by simp)⟩
    have := e0.frf b z
    rw [e1] at this
    cases this
  have inR : ∀ b, b ∈ cl.map (·.2) → relend cl H H' b = H b := fun b hb => if_pos hb
  have outR : ∀ b, b ∉ cl.map (·.2) → relend cl H H' b = H' b := fun b hb => if_neg hb
  have fS : ∀ b, b ∈ cl.map (·.2) → H' b = none := fun b hb => by
    obtain ⟨o, v, _, e2, _⟩ := cellAt b hb
    exact U.free b o e2 (strip_in hb) (by simp)
  refine ⟨v, relend cl H H', J.os, J.bare, ⟨fun b o e n hf hx => ?_, fun b o e n hf hx => ?_, fun b o e n hx => ?_, U.there, fun b xs e => ?_, fun b o y e => ?_, fun b ps e => ?_⟩, fun b y e => ?_, rv, qv fS⟩
  · exact U.keep b o e (nS b n) hf hx
  · exact U.slot b o e (nS b n) hf hx
  · by_cases hb : b ∈ cl.map (·.2)
    · rw [inR b hb]
      exact n
    · rw [outR b hb]
      exact U.free b o e (nS b n) hx
  · by_cases hb : b ∈ cl.map (·.2)
    · rw [inR b hb]
      exact e
    · rw [outR b hb]
      exact U.tups b xs (by rw [strip_out hb]; exact e)
  · by_cases hb : b ∈ cl.map (·.2)
    · rw [inR b hb]
      exact e
    · rw [outR b hb]
      exact U.frzs b o y (by rw [strip_out hb]; exact e)
  · by_cases hb : b ∈ cl.map (·.2)
    · rw [inR b hb]
      exact ⟨#[], by rw [e]; simp⟩
    · rw [outR b hb]
      exact U.tbls b ps (by rw [strip_out hb]; exact e)
  · by_cases hb : b ∈ cl.map (·.2)
    · obtain ⟨o, e1, e2⟩ := cellLater b hb
      rw [inR b hb, e1] at e
      cases e
      exact fz_ok e2
    · rw [outR b hb] at e
      have kp2 : ∀ c z, H' c = some z → relend cl H H' c = some z := fun c z hz => by
        have hc : c ∉ cl.map (·.2) := fun q => by
          rw [fS c q] at hz
          cases hz
        rw [outR c hc]
        exact hz
      exact (J.hok b y e).stay (fun _ _ _ q => q) (fun c q => kp2 c _ q) fun c xs q => kp2 c _ q
end
end Ord

namespace Ord
open PySem PySem.Spec PyProof.Rows L2 LamX
/-! ### how heaps follow one another -/
/-- what never changes -/
def Fixed : HO → Prop
  | .tup _ => True
  | .frz _ _ => True
  | .ext _ => True
  | _ => False
/-- the tuples stand -/
def TK (H H' : Hp) : Prop := ∀ b xs, H b = some (.tup xs) → H' b = some (.tup xs)
/-- all but q stands, the tuples stand -/
structure KB (q : Addr) (H H' : Hp) : Prop where
  keep : ∀ b o, b ≠ q → H b = some o → H' b = some o
  tk : TK H H'
/-- q stands, and what never changes -/
def Stay (q : Addr) (H H' : Hp) : Prop := ∀ b o, H b = some o → (b = q ∨ Fixed o) → H' b = some o
theorem TK.refl (H : Hp) : TK H H := fun _ _ h => h
theorem TK.trans {H H1 H2 : Hp} (a : TK H H1) (b : TK H1 H2) : TK H H2 := fun c xs h => b c xs (a c xs h)
theorem KB.refl (q : Addr) (H : Hp) : KB q H H := ⟨fun _ _ _ h => h, TK.refl H⟩
theorem KB.trans {q : Addr} {H H1 H2 : Hp} (a : KB q H H1) (b : KB q H1 H2) : KB q H H2 := ⟨fun c o n h => b.keep c o n (a.keep c o n h), a.tk.trans b.tk⟩
theorem KB.of_same {q : Addr} {H H' : Hp} (s : Same H H') : KB q H H' := ⟨fun b o _ h => s b o h, fun b xs h => s b _ h⟩
theorem KB.new {q p : Addr} {H : Hp} {o : HO} (n : H p = none) : KB q H (upd H p o) := .of_same fun b u e => by rw [upd_ne (ne_of_none e n)]; exact e
/-- p, new since H, is written -/
theorem KB.wr {q p : Addr} {H H' : Hp} {o : HO} (k : KB q H H') (n : H p = none) : KB q H (upd H' p o) :=
  ⟨fun b u hb e => by rw [upd_ne (ne_of_none e n)]; exact k.keep b u hb e, fun b xs e => by rw [upd_ne (ne_of_none e n)]; exact k.tk b xs e⟩
theorem Stay.of_same {q : Addr} {H H' : Hp} (s : Same H H') : Stay q H H' := fun b o h _ => s b o h
theorem Stay.new {q p : Addr} {H : Hp} {o : HO} (n : H p = none) : Stay q H (upd H p o) := .of_same fun b u e => by rw [upd_ne (ne_of_none e n)]; exact e
theorem Stay.trans {q : Addr} {H H1 H2 : Hp} (a : Stay q H H1) (b : Stay q H1 H2) : Stay q H H2 := fun c o h f => b c o (a c o h f) f
theorem Stay.wr {q p : Addr} {H : Hp} {o u : HO} (e : H p = some u) (nf : ¬ Fixed u) (hq : p ≠ q) : Stay q H (upd H p o) := fun b y h f => by
  have hb : b ≠ p := fun z => by
    rcases f with f | f
    · exact hq (z.symm.trans f)
    · rw [z, e] at h
      cases h
      exact nf f
  rw [upd_ne hb]
  exact h
theorem nf_lst {xs : List V} : ¬ Fixed (.lst xs) := fun z => z
theorem nf_ins {C dx : Addr} {fs : List (Str × V)} : ¬ Fixed (.ins C dx fs) := fun z => z
theorem Stay.tk {q : Addr} {H H' : Hp} (s : Stay q H H') : TK H H' := fun b xs e => s b _ e (.inr True.intro)
theorem Same.tk {H H' : Hp} (s : Same H H') : TK H H' := fun b xs e => s b _ e
theorem TK.new {p : Addr} {H : Hp} {o : HO} (n : H p = none) : TK H (upd H p o) := fun b u e => by rw [upd_ne (ne_of_none e n)]; exact e
theorem TK.wr {p : Addr} {H : Hp} {o u : HO} (e : H p = some u) (nf : ¬ Fixed u) : TK H (upd H p o) := fun b y h => by
  have hb : b ≠ p := fun z => by
    rw [z, e] at h
    cases h
    exact nf True.intro
  rw [upd_ne hb]
  exact h
/-- a row that questions don't change -/
def Row (K : PySem.W.Frag) (q : Addr) (H : Hp) (a : Addr) (xs : List V) : Prop := SqL K H a xs ∧ a ≠ q
theorem sq_keep {K : PySem.W.Frag} {H H' : Hp} {a : Addr} {xs : List V} (h : SqL K H a xs) (k : ∀ o, H a = some o → H' a = some o) : SqL K H' a xs := by
  rcases h with (h | ⟨o, h⟩) | h
  · exact .inl (.inl (k _ h))
  · exact .inl (.inr ⟨o, k _ h⟩)
  · exact .inr h
theorem Row.kb {K : PySem.W.Frag} {q : Addr} {H H' : Hp} {a : Addr} {xs : List V} (h : Row K q H a xs) (k : KB q H H') : Row K q H' a xs := ⟨sq_keep h.1 fun o e => k.keep a o h.2 e, h.2⟩
theorem Row.of {K : PySem.W.Frag} {q : Addr} {H : Hp} {a : Addr} {xs : List V} (h : H a = some (.lst xs)) (n : a ≠ q) : Row K q H a xs := ⟨SqL.of h, n⟩
theorem Row.ne {K : PySem.W.Frag} {q p : Addr} {H : Hp} {a : Addr} {xs : List V} {o : HO} (h : Row K q H a xs) (n : a ≠ p) : Row K q (upd H p o) a xs := ⟨sq_keep h.1 fun u e => by rw [upd_ne n]; exact e, h.2⟩
theorem Row.new {K : PySem.W.Frag} {q p : Addr} {H : Hp} {a : Addr} {xs : List V} {o : HO} (h : Row K q H a xs) (n : H p = none) : Row K q (upd H p o) a xs := ⟨sq_keep h.1 fun u e => by rw [upd_ne (ne_of_none e n)]; exact e, h.2⟩

/-! ### the function that is handed in -/
abbrev Lg := List (V × V)
/-- what a question asks and gives -/
def spAsk (q : Addr) (ans : Lg → V → V → Int) (Log : Lg → Hp → Prop) (Dom : V → Hp → Prop) : Sp := fun vs H Q _ => ∃ (x y : V) (l : Lg), vs = [x, y] ∧ Log l H ∧ l.length < 100000 ∧ Dom x H ∧ Dom y H ∧
  ∀ H', KB q H H' → Log (l ++ [(x, y)]) H' → Q (.int (ans l x y)) H'
structure Orc (P : Program) (w : World) (K : PySem.W.Frag) (mg : Str → Option Value) (base : Heap) where
  f : Addr
  q : Addr
  ans : Lg → V → V → Int
  Log : Lg → Hp → Prop
  Dom : V → Hp → Prop
  isf : ∀ {l H}, Log l H → IsFz H f
  isq : ∀ {l H}, Log l H → H q ≠ Option.none
  stay : ∀ {l H H'}, Stay q H H' → Log l H → Log l H'
  dom : ∀ {x H H'}, TK H H' → Dom x H → Dom x H'
  run : FnV P w K mg base 3 f (spAsk q ans Log Dom)
section
variable {P : Program} {w : World} {K : PySem.W.Frag} {mg : Str → Option Value} {base : Heap} (O : Orc P w K mg base)
/-- all of a row may be asked of -/
def Orc.All (xs : List V) (H : Hp) : Prop := ∀ x ∈ xs, O.Dom x H
variable {O}
theorem Orc.All.tk {xs : List V} {H H' : Hp} (h : O.All xs H) (k : TK H H') : O.All xs H' := fun x hx => O.dom k (h x hx)
theorem Orc.All.get {xs : List V} {H : Hp} {i : Nat} {x : V} (h : O.All xs H) (e : xs[i]? = some x) : O.Dom x H := h x (List.mem_of_getElem? e)
theorem Orc.nq {l : Lg} {H : Hp} {p : Addr} (h : O.Log l H) (n : H p = none) : p ≠ O.q := fun z => O.isq h (by rw [← z]; exact n)
theorem Orc.new {l : Lg} {H : Hp} {p : Addr} {o : HO} (h : O.Log l H) (n : H p = none) : O.Log l (upd H p o) := O.stay (Stay.new n) h
theorem Orc.wr {l : Lg} {H : Hp} {p : Addr} {o u : HO} (h : O.Log l H) (e : H p = some u) (nf : ¬ Fixed u) (hq : p ≠ O.q) : O.Log l (upd H p o) := O.stay (Stay.wr e nf hq) h
end
end Ord
namespace Ord
open PySem PySem.Spec PyProof.Rows L2 LamX
theorem KB.free {q p : Addr} {H H' : Hp} (k : KB q H H') (hq : p ≠ q) (n : H' p = none) : H p = none := by
  cases e : H p with
  | none => rfl
  | some o =>
    rw [k.keep p o hq e] at n
    cases n
theorem cut_from {xs : List V} {i : Nat} (h : i ≤ xs.length) : cutV xs (some (i : Int)) none = xs.drop i := by
  unfold cutV
  rw [HT.sIx_nat, HT.sIx_none, Nat.min_eq_left h, List.take_of_length_le (by rw [List.length_drop]; omega)]
theorem cut_to {xs : List V} {i : Nat} (h : i ≤ xs.length) : cutV xs none (some (i : Int)) = xs.take i := by
  unfold cutV
  rw [HT.sIx_nat, HT.sIx_none, Nat.min_eq_left h, List.drop_zero, Nat.sub_zero]
theorem cut_from1 (xs : List V) (i : Nat) : cutV xs (some (i : Int)) none = xs.drop i := by
  unfold cutV
  rw [HT.sIx_nat, HT.sIx_none]
  by_cases h : i ≤ xs.length
  · rw [Nat.min_eq_left h, List.take_of_length_le (by rw [List.length_drop]; omega)]
  · rw [Nat.min_eq_right (by omega), List.drop_of_length_le (Nat.le_refl _), List.drop_of_length_le (by omega)]
    simp
theorem cut_to1 (xs : List V) (i : Nat) : cutV xs none (some (i : Int)) = xs.take i := by
  unfold cutV
  rw [HT.sIx_nat, HT.sIx_none, List.drop_zero, Nat.sub_zero]
  by_cases h : i ≤ xs.length
  · rw [Nat.min_eq_left h]
  · rw [Nat.min_eq_right (by omega), List.take_of_length_le (Nat.le_refl _), List.take_of_length_le (by omega)]
theorem z1000 {n : Nat} (h : n ≤ 1000) : n ≤ sizeLine := Nat.le_of_lt (small1000 h)
/-- a test whose answer is told -/
theorem iteB {c : Bool} {A B : Prop} (h1 : c = true → A) (h2 : c = false → B) : if c = true then A else B := by
  cases c with
  | true => exact iteT (h1 rfl)
  | false => exact iteF (h2 rfl)
theorem iteD {p : Prop} [Decidable p] {A B : Prop} (h1 : p → A) (h2 : ¬ p → B) : if decide p = true then A else B := iteB (fun e => h1 (of_decide_eq_true e)) fun e => h2 (of_decide_eq_false e)
end Ord
namespace Ord
open PySem PySem.Spec PyProof.Rows L2 LamX
/-! ### operators whose answer is named by the one who asks -/
def rE (C : Int → Int → Prop) (g : Int → Int → Int) : R2 := fun x y H Q => ∃ i j z : Int, x = .int i ∧ y = .int j ∧ C i j ∧ z = g i j ∧ Q (.int z) H
def rE0 (g : Int → Int → Int) : R2 := fun x y H Q => ∃ i j z : Int, x = .int i ∧ y = .int j ∧ z = g i j ∧ Q (.int z) H
section
variable {X : Cx}
theorem opE {f : Value → Value → Sem Value} {C : Int → Int → Prop} {g : Int → Int → Int} (h : OpR X f (rI C fun i j => .int (g i j))) : OpR X f (rE C g) := by
  intro pins s σ H x y v u Q I rx ry q
  obtain ⟨i, j, z, e1, e2, hc, rfl, q⟩ := q
  exact h pins s σ H x y v u Q I rx ry ⟨i, j, e1, e2, hc, q⟩
theorem opE0 {f : Value → Value → Sem Value} {g : Int → Int → Int} (h : OpR X f (rI0 fun i j => .int (g i j))) : OpR X f (rE0 g) := by
  intro pins s σ H x y v u Q I rx ry q
  obtain ⟨i, j, z, e1, e2, rfl, q⟩ := q
  exact h pins s σ H x y v u Q I rx ry ⟨i, j, e1, e2, q⟩
theorem op_fdivE : OpR X (binaryOp .FloorDiv) (rE CDiv fun i j => i / j) := opE op_fdiv
theorem op_addE : OpR X (binaryOp .Add) (rE0 fun i j => i + j) := opE0 op_add
theorem op_subE : OpR X (binaryOp .Sub) (rE0 fun i j => i - j) := opE0 op_sub
theorem op_mulE : OpR X (binaryOp .Mult) (rE CMul fun i j => i * j) := opE op_mul
theorem op_modE : OpR X (binaryOp .Mod) (rE (fun _ j => 0 < j) fun i j => i % j) := opE op_mod
end
end Ord
namespace Ord
open PySem PySem.Spec PyProof.Rows L2 LamX
/-! ### defs of the text by name -/
structure Df (K : PySem.W.Frag) (mg : Str → Option Value) (x : Str) (st : Stmt) (ps : List Str) where
  f : Addr
  fd : FuncData
  F : Fun K x x st f fd
  g : mg x = some (.ref f)
  b : Binds K fd ps []
section
variable {X : Cx} {k : Nat} {x : Str} {st : Stmt} {ps : List Str} {sp : Sp} {p pos : Pos} {e : Expr} {es : List Expr} {t : TA} {te : TE}
theorem pe_cd {d : Df X.K X.mg x st ps} (G : FnOk X.prog X.w X.K X.mg X.base CX0 k d.f d.fd ps sp) (hr : Room k X.A) (ha : PA X (e :: es) t) (hg : Gl X x := by rfl) (hdb : (x == ("__debug__" : Str)) = false := by decide)
    (he : starEach (e :: es) X.env = (false, eval e X.env) :: starEach es X.env := by rfl) (hpl : (backTo pos (starEach es X.env)).any (·.1) = false := by rfl) : PE X (.Call (.Name x p) (e :: es) [] pos) (tCall sp [] E0 t) :=
  pe_call G hr hg d.g d.F.kp d.b .nil pass0 ha hdb he hpl
theorem pe_cdLent {d : Df X.K X.mg x st ps} (G : FnOk X.prog X.w X.K X.mg X.base CX0 k d.f d.fd ps sp) (hr : Room k X.A) (un : UniqC X.env.cells) (hfn : ∀ x, X.fn x = true) (ha : PA X (e :: es) t) (hg : Gl X x := by rfl) (hdb : (x == ("__debug__" : Str)) = false := by decide)
    (he : starEach (e :: es) X.env = (false, eval e X.env) :: starEach es X.env := by rfl) (hpl : (backTo pos (starEach es X.env)).any (·.1) = false := by rfl) : PE X (.Call (.Name x p) (e :: es) [] pos) (tCallLent X sp t) :=
  pe_callLent G hr hg d.g d.F.kp d.b un hfn (fun _ _ _ _ z => z) ha hdb he hpl
/-- len(e): a list, a tuple -/
def rLen1 (K : PySem.W.Frag) : List V → Hp → VK → Prop := fun xs H Q => ∃ p ys, xs = [V.ref p] ∧ (SqL K H p ys ∨ SqT K H p ys) ∧ Q (.int (ys.length : Nat)) H
theorem pe_len (mL : X.mg "len" = none) (h : PE X e te) (hg : Gl X "len" := by rfl) (he : starEach [e] X.env = (false, eval e X.env) :: starEach [] X.env := by rfl) (hpl : (backTo pos (starEach [] X.env)).any (·.1) = false := by rfl) :
    PE X (.Call (.Name "len" p) [e] [] pos) (tCB (rLen1 X.K) (tCons te tNil)) :=
  pe_callB call_len_seq hg mL PySem.boot_len (pa_cons h pa_nil he) (by decide) (by decide) he hpl
end
theorem hu65 {A : Around} {k : Nat} (hr : Room k A) : A.units + 65 < cLine := Nat.lt_of_le_of_lt (Nat.add_le_add_left (by decide : 65 ≤ 200) _) (Nat.lt_of_le_of_lt (by omega) hr.un)
/-! ### cells: no name twice -/
theorem cells_keys : ∀ (names : List (Str × NameKind)) (n : Nat) (acc : List (Str × Addr)), (names.map (·.1)).Nodup → (acc.map (·.1)).Nodup → (∀ x ∈ names.map (·.1), x ∉ acc.map (·.1)) → ((cellsFrom n names acc).map (·.1)).Nodup
  | [], n, acc, _, h, _ => h
  | (y, k) :: r, n, acc, h1, h2, h3 => by
    rw [List.map_cons, List.nodup_cons] at h1
    unfold cellsFrom
    split
    · refine cells_keys r (n + 1) _ h1.2 ?_ fun x hx => ?_
      · rw [List.map_cons, List.nodup_cons]
        exact ⟨h3 y (by rw [List.map_cons]; exact List.mem_cons_self), h2⟩
      · rw [List.map_cons, List.mem_cons, not_or]
        refine ⟨fun e => ?_, h3 x (by rw [List.map_cons]; exact List.mem_cons_of_mem _ hx)⟩
        subst e
        exact h1.1 hx
    · exact cells_keys r n acc h1.2 h2 fun x hx => h3 x (by rw [List.map_cons]; exact List.mem_cons_of_mem _ hx)
theorem lookup_of_keys : ∀ {cs : List (Str × Addr)} {x : Str} {c : Addr}, (cs.map (·.1)).Nodup → (x, c) ∈ cs → cs.lookup x = some c
  | (y, d) :: r, x, c, h, hm => by
    rw [List.map_cons, List.nodup_cons] at h
    rw [List.lookup_cons]
    rcases List.mem_cons.mp hm with e | e
    · cases e
      simp
    · have hx : (x == y) = false := beq_eq_false_iff_ne.mpr fun z => by
        subst z
        exact h.1 (List.mem_map.mpr ⟨_, e, rfl⟩)
      rw [hx]
      exact lookup_of_keys h.2 e
theorem uniq_cells {names : List (Str × NameKind)} {n : Nat} (h : (names.map (·.1)).Nodup) : UniqC (cellsFrom n names []) := fun b hb => by
  obtain ⟨⟨x, c⟩, hm, e⟩ := List.mem_map.mp hb
  have e : c = b := e
  subst e
  exact ⟨x, lookup_of_keys (cells_keys names n [] h (by simp) (by simp)) hm⟩
end Ord
namespace Ord
open PySem PySem.Spec PyProof.Rows L2 LamX
theorem Same.new {H : Hp} {p : Addr} {o : HO} (n : H p = none) : Same H (upd H p o) := fun b u e => by rw [upd_ne (ne_of_none e n)]; exact e
/-- behind a new object -/
theorem kn {H : Hp} {p b : Addr} {o u : HO} (n : H p = none) (e : H b = some u) : upd H p o b = some u := (upd_ne (ne_of_none e n)).trans e
end Ord

/-! What the laws' helpers compute. -/
namespace Mir
def cellI (ns : List Int) (k : Nat) : Int := if ns = [] then (k : Int) * 7919 else ns.getD (k % ns.length) 0 + ((k / ns.length : Nat) : Int) * 104729
def moreI (c : Int) (k : Nat) : Int := (c * 6364136223846793005 + ((k : Int) + 1) * 1442695040888963407) % 340282366920938463463374607431768211507
def drawn (c : Int) (k : Nat) : Int := moreI c k * moreI c k % 340282366920938463463374607431768211297
theorem moreI_nn (c : Int) (k : Nat) : 0 ≤ moreI c k ∧ moreI c k < 340282366920938463463374607431768211507 := ⟨Int.emod_nonneg _ (by decide), Int.emod_lt_of_pos _ (by decide)⟩
theorem drawn_nn (c : Int) (k : Nat) : 0 ≤ drawn c k ∧ drawn c k < 340282366920938463463374607431768211297 := ⟨Int.emod_nonneg _ (by decide), Int.emod_lt_of_pos _ (by decide)⟩
/-- the law's draw at a cell -/
def dr (ns : List Int) (c k : Nat) : Int := drawn (cellI ns c) k
theorem dr_nn (ns : List Int) (c k : Nat) : 0 ≤ dr ns c k ∧ dr ns c k < 340282366920938463463374607431768211297 := drawn_nn _ _
/-! ### the least power of two -/
def clog (n : Nat) : Nat := if n ≤ 1 then 0 else clog ((n + 1) / 2) + 1
decreasing_by omega
theorem clog_lt : ∀ (k n : Nat), 2 ^ k < n ↔ k < clog n
  | 0, n => by
    rw [clog]
    split
    · simp; omega
    · simp; omega
  | k + 1, n => by
    have ih := clog_lt k ((n + 1) / 2)
    rw [clog]
    have e : 2 ^ (k + 1) = 2 * 2 ^ k := by rw [Nat.pow_succ]; omega
    split
    · have : 0 < 2 ^ k := Nat.pow_pos (by decide)
      omega
    · rw [e]
      omega
theorem clog_le {n k : Nat} : clog n ≤ k ↔ n ≤ 2 ^ k := by
  have h := clog_lt k n
  omega
theorem le_clog (n : Nat) : n ≤ 2 ^ clog n := clog_le.mp (Nat.le_refl _)
theorem clog_mono {m n : Nat} (h : m ≤ n) : clog m ≤ clog n := clog_le.mpr (Nat.le_trans h (le_clog n))
theorem clog_le_self (n : Nat) : clog n ≤ n := clog_le.mpr (Nat.le_of_lt Nat.lt_two_pow_self)
/-! ### the six orders -/
def b01 (b : Bool) : Int := if b then 1 else 0
def ansI (way : Int) (x y : Int × Int) : Int :=
  if way = 1 then 0 - (x.1 - y.1) else if way = 2 then x.1 / 3 - y.1 / 3
  else if way = 3 then (b01 (decide (0 < x.1 - y.1)) - b01 (decide (x.1 - y.1 < 0))) * (1 + (if x.2 < 0 then -x.2 else x.2) % 9)
  else if way = 4 then (x.1 - y.1) * 100000000000000000000
  else if way = 5 then (if x.1 - 4 < 0 then -(x.1 - 4) else x.1 - 4) - (if y.1 - 4 < 0 then -(y.1 - 4) else y.1 - 4)
  else x.1 - y.1
def keyI (way : Int) (x : Int × Int) : Int :=
  if way = 1 then 0 - x.1 else if way = 2 then x.1 / 3 else if way = 5 then (if x.1 - 4 < 0 then -(x.1 - 4) else x.1 - 4) else x.1
/-- answers that tell an order by a key -/
structure KeyA {α : Type} (ans : List (α × α) → α → α → Int) (key : α → Int) : Prop where
  pos : ∀ l x y, 0 < ans l x y ↔ key y < key x
  neg : ∀ l x y, ans l x y < 0 ↔ key x < key y
theorem KeyA.le {α : Type} {ans : List (α × α) → α → α → Int} {key : α → Int} (h : KeyA ans key) (l : List (α × α)) (x y : α) : ans l x y ≤ 0 ↔ key x ≤ key y := by
  have := h.pos l x y
  omega
theorem KeyA.eq {α : Type} {ans : List (α × α) → α → α → Int} {key : α → Int} (h : KeyA ans key) (l : List (α × α)) (x y : α) : ans l x y = 0 ↔ key x = key y := by
  have h1 := h.pos l x y
  have h2 := h.neg l x y
  omega
theorem KeyA.ge {α : Type} {ans : List (α × α) → α → α → Int} {key : α → Int} (h : KeyA ans key) (l : List (α × α)) (x y : α) : 0 ≤ ans l x y ↔ key y ≤ key x := by
  have h2 := h.neg l x y
  omega
theorem ansI_pos (way : Int) (x y : Int × Int) : (0 < ansI way x y ↔ keyI way y < keyI way x) ∧ (ansI way x y < 0 ↔ keyI way x < keyI way y) := by
  unfold ansI keyI
  by_cases h1 : way = 1
  · simp only [if_pos h1]; omega
  · by_cases h2 : way = 2
    · simp only [if_neg h1, if_pos h2]; omega
    · by_cases h3 : way = 3
      · have n5 : ¬ way = 5 := by omega
        simp only [if_neg h1, if_neg h2, if_pos h3, if_neg n5]
        obtain ⟨m, hm, hm1⟩ : ∃ m : Int, (1 + (if x.2 < 0 then -x.2 else x.2) % 9) = m ∧ 0 < m := ⟨_, rfl, by
          have := Int.emod_nonneg (if x.2 < 0 then -x.2 else x.2) (show (9 : Int) ≠ 0 by decide)
          omega⟩
        rw [hm]
        unfold b01
        by_cases a : 0 < x.1 - y.1
        · have b : ¬ x.1 - y.1 < 0 := by omega
          simp only [decide_eq_true a, decide_eq_false b, if_true, Bool.false_eq_true, if_false]
          omega
        · by_cases b : x.1 - y.1 < 0
          · simp only [decide_eq_false a, decide_eq_true b, if_true, Bool.false_eq_true, if_false]
            omega
          · simp only [decide_eq_false a, decide_eq_false b, Bool.false_eq_true, if_false]
            omega
      · by_cases h4 : way = 4
        · have n5 : ¬ way = 5 := by omega
          simp only [if_neg h1, if_neg h2, if_neg h3, if_pos h4, if_neg n5]; omega
        · by_cases h5 : way = 5
          · simp only [if_neg h1, if_neg h2, if_neg h3, if_neg h4, if_pos h5]; omega
          · simp only [if_neg h1, if_neg h2, if_neg h3, if_neg h4, if_neg h5]; omega
theorem keyA_of {α : Type} (way : Int) (c : α → Int × Int) : KeyA (fun _ x y => ansI way (c x) (c y)) (fun x => keyI way (c x)) := ⟨fun _ x y => (ansI_pos way (c x) (c y)).1, fun _ x y => (ansI_pos way (c x) (c y)).2⟩
/-! ### the stable order, element by element -/
section
variable {α : Type}
def plc (key : α → Int) (made : List α) (e : α) : Nat → Nat
  | 0 => 0
  | n + 1 => match made[n]? with
    | some z => if key e < key z then plc key made e n else n + 1
    | none => n + 1
def ins1 (key : α → Int) (made : List α) (e : α) : List α := made.take (plc key made e made.length) ++ [e] ++ made.drop (plc key made e made.length)
def isort (key : α → Int) (xs : List α) : List α := xs.foldl (ins1 key) []
theorem plc_le (key : α → Int) (made : List α) (e : α) : ∀ n, plc key made e n ≤ n
  | 0 => Nat.le_refl 0
  | n + 1 => by
    have ih := plc_le key made e n
    unfold plc
    split
    · split
      · omega
      · omega
    · omega
theorem ins1_len (key : α → Int) (made : List α) (e : α) : (ins1 key made e).length = made.length + 1 := by
  have h := plc_le key made e made.length
  unfold ins1
  simp only [List.length_append, List.length_take, List.length_drop, List.length_singleton]
  omega
theorem isort_snoc (key : α → Int) (xs : List α) (e : α) : isort key (xs ++ [e]) = ins1 key (isort key xs) e := by
  unfold isort
  rw [List.foldl_append]
  rfl
theorem isort_len (key : α → Int) (xs : List α) : (isort key xs).length = xs.length := by
  have : ∀ (ys : List α) (acc : List α), (ys.foldl (ins1 key) acc).length = acc.length + ys.length := by
    intro ys
    induction ys with
    | nil => intro acc; simp
    | cons y ys ih => intro acc; rw [List.foldl_cons, ih, ins1_len, List.length_cons]; omega
  unfold isort
  rw [this]
  simp
theorem ins1_mem {key : α → Int} {made : List α} {e z : α} (h : z ∈ ins1 key made e) : z ∈ made ∨ z = e := by
  unfold ins1 at h
  rcases List.mem_append.mp h with h | h
  · rcases List.mem_append.mp h with h | h
    · exact .inl (List.mem_of_mem_take h)
    · exact .inr (List.mem_singleton.mp h)
  · exact .inl (List.mem_of_mem_drop h)
theorem isort_mem {key : α → Int} {xs : List α} {z : α} (h : z ∈ isort key xs) : z ∈ xs := by
  have : ∀ (ys : List α) (acc : List α), z ∈ ys.foldl (ins1 key) acc → z ∈ acc ∨ z ∈ ys := by
    intro ys
    induction ys with
    | nil => intro acc q; exact .inl q
    | cons y ys ih =>
      intro acc q
      rw [List.foldl_cons] at q
      rcases ih _ q with q | q
      · rcases ins1_mem q with q | q
        · exact .inl q
        · exact .inr (by rw [q]; exact List.mem_cons_self)
      · exact .inr (List.mem_cons_of_mem _ q)
  rcases this xs [] h with q | q
  · cases q
  · exact q
end
end Mir
namespace Mir
section
variable {α : Type}
theorem plc_zero (key : α → Int) (made : List α) (e : α) : plc key made e 0 = 0 := by unfold plc; rfl
theorem plc_lt {key : α → Int} {made : List α} {e z : α} {n : Nat} (h : made[n]? = some z) (hz : key e < key z) : plc key made e (n + 1) = plc key made e n := by
  rw [plc]
  rw [h]
  exact if_pos hz
theorem plc_ge {key : α → Int} {made : List α} {e z : α} {n : Nat} (h : made[n]? = some z) (hz : ¬ key e < key z) : plc key made e (n + 1) = n + 1 := by
  rw [plc]
  rw [h]
  exact if_neg hz
end
end Mir

namespace Ord
open PySem PySem.Spec PyProof.Rows L2 LamX
/-! ### elements: pairs of whole numbers -/
def pd (e : Int × Int) : PyData := .tuple [.int e.1, .int e.2]
/-- x is a tuple of the two numbers e -/
def Pr (H : Hp) (x : V) (e : Int × Int) : Prop := ∃ p, x = .ref p ∧ H p = some (.tup [.int e.1, .int e.2])
/-- what stands at an element -/
def cnt (H : Hp) (x : V) : Int × Int := match x with
  | .ref p => (match H p with
    | some (.tup [.int a, .int b]) => (a, b)
    | _ => (0, 0))
  | _ => (0, 0)
theorem Pr.tk {H H' : Hp} {x : V} {e : Int × Int} (h : Pr H x e) (k : TK H H') : Pr H' x e := by
  obtain ⟨p, e1, e2⟩ := h
  exact ⟨p, e1, k _ _ e2⟩
theorem Pr.cnt {H : Hp} {x : V} {e : Int × Int} (h : Pr H x e) : Ord.cnt H x = e := by
  obtain ⟨p, rfl, e2⟩ := h
  unfold Ord.cnt
  simp only [e2]
theorem Pr.inj {H : Hp} {x : V} {e e' : Int × Int} (h : Pr H x e) (h' : Pr H x e') : e = e' := by rw [← h.cnt, h'.cnt]
/-- numbers that may be multiplied -/
def Sm (i : Int) : Prop := i.natAbs < 2 ^ 200
theorem Sm.of {i : Int} (h1 : -(2 ^ 199) ≤ i) (h2 : i ≤ 2 ^ 199) : Sm i := by
  unfold Sm
  have e : (2 : Int) ^ 199 = ((2 ^ 199 : Nat) : Int) := by norm_cast
  rw [e] at h1 h2
  have e2 : (2 : Nat) ^ 200 = 2 ^ 199 + 2 ^ 199 := by decide
  have e3 : 0 < (2 : Nat) ^ 199 := by decide
  omega
def Sn (i : Int) : Prop := i.natAbs < 2 ^ 190
theorem Sn.sub {i j : Int} (h1 : Sn i) (h2 : Sn j) : Sm (i - j) := by
  unfold Sn at h1 h2
  unfold Sm
  have e : (2 : Nat) ^ 190 + 2 ^ 190 ≤ 2 ^ 200 := by decide
  omega
theorem Sn.of {i : Int} (h1 : -1000000000000000000000000000000000000000 ≤ i) (h2 : i ≤ 1000000000000000000000000000000000000000) : Sn i := by
  unfold Sn
  have e : 1000000000000000000000000000000000000000 < (2 : Nat) ^ 190 := by decide
  omega
/-- an element of contents c x -/
def El (c : V → Int × Int) (x : V) (H : Hp) : Prop := Pr H x (c x) ∧ Sn (c x).1 ∧ Sn (c x).2
theorem El.tk {c : V → Int × Int} {x : V} {H H' : Hp} (k : TK H H') (h : El c x H) : El c x H' := ⟨h.1.tk k, h.2⟩
def Els (c : V → Int × Int) (xs : List V) (H : Hp) : Prop := ∀ x ∈ xs, El c x H
theorem Els.tk {c : V → Int × Int} {xs : List V} {H H' : Hp} (h : Els c xs H) (k : TK H H') : Els c xs H' := fun x hx => (h x hx).tk k
theorem El.now {c : V → Int × Int} {x : V} {H : Hp} (h : El c x H) : El (cnt H) x H := by
  obtain ⟨a, b1, b2⟩ := h
  have e := a.cnt
  exact ⟨by rw [e]; exact a, by rw [e]; exact b1, by rw [e]; exact b2⟩
theorem El.eqc {c : V → Int × Int} {x : V} {H : Hp} (h : El c x H) : cnt H x = c x := h.1.cnt
theorem Els.now {c : V → Int × Int} {xs : List V} {H : Hp} (h : Els c xs H) : Els (cnt H) xs H := fun x hx => (h x hx).now
/-! ### as data -/
theorem dp_el {K : PySem.W.Frag} {H : Hp} {x : V} {e : Int × Int} (h : Pr H x e) : Dp K H x (pd e) := by
  obtain ⟨p, rfl, e2⟩ := h
  exact .tup (SqT.of e2) (.cons (.int _) (.cons (.int _) .nil))
theorem dp_els {K : PySem.W.Frag} {H : Hp} {c : V → Int × Int} : ∀ {xs : List V}, Els c xs H → DpAll K H xs (xs.map fun x => pd (c x))
  | [], _ => .nil
  | x :: xs, h => .cons (dp_el (h x List.mem_cons_self).1) (dp_els fun y hy => h y (List.mem_cons_of_mem _ hy))
theorem dp_row {K : PySem.W.Frag} {H : Hp} {c : V → Int × Int} {a : Addr} {xs : List V} (s : SqL K H a xs) (h : Els c xs H) : Dp K H (.ref a) (.list (xs.map fun x => pd (c x))) := .lst s (dp_els h)
theorem dp_ints {K : PySem.W.Frag} {H : Hp} : ∀ (ns : List Int), DpAll K H (ns.map V.int) (ns.map PyData.int)
  | [] => .nil
  | n :: ns => .cons (.int n) (dp_ints ns)
theorem canLay_pd (e : Int × Int) : (pd e).canLay0 = true := by simp [pd, PyData.canLay0, PyData.canLayAll0]
theorem depth_pd (e : Int × Int) : (pd e).depth ≤ 4 := by simp [pd, PyData.depth, PyData.depthAll]
theorem canLayAll_pd {α : Type} (g : α → Int × Int) : ∀ xs : List α, PyData.canLayAll0 (xs.map fun x => pd (g x)) = true
  | [] => rfl
  | x :: xs => by
    rw [List.map_cons, PyData.canLayAll0, canLay_pd, canLayAll_pd g xs]
    rfl
theorem depthAll_pd {α : Type} (g : α → Int × Int) : ∀ xs : List α, PyData.depthAll (xs.map fun x => pd (g x)) ≤ 4
  | [] => by simp [PyData.depthAll]
  | x :: xs => by
    have h1 := depth_pd (g x)
    have h2 := depthAll_pd g xs
    rw [List.map_cons, PyData.depthAll]
    omega
theorem shaped_of {d : PyData} (h1 : d.canLay0 = true) (h2 : d.depth ≤ 64) : SeqAt.shaped d = true := by
  unfold SeqAt.shaped
  rw [h1, decide_eq_true h2]
  rfl
theorem shaped_pd (e : Int × Int) : SeqAt.shaped (pd e) = true := shaped_of (canLay_pd e) (Nat.le_trans (depth_pd e) (by decide))
theorem shaped_row {α : Type} (g : α → Int × Int) (xs : List α) : SeqAt.shaped (.list (xs.map fun x => pd (g x))) = true := by
  have h := depthAll_pd g xs
  refine shaped_of (by rw [PyData.canLay0]; exact canLayAll_pd g xs) ?_
  rw [PyData.depth]
  omega
theorem shaped_nil : SeqAt.shaped (.list []) = true := shaped_row (fun x : Int × Int => x) []
theorem shaped_ints (ns : List Int) : SeqAt.shaped (.list (ns.map PyData.int)) = true := by
  have a : ∀ ns : List Int, PyData.canLayAll0 (ns.map PyData.int) = true ∧ PyData.depthAll (ns.map PyData.int) ≤ 1 := by
    intro ns
    induction ns with
    | nil => exact ⟨rfl, by simp [PyData.depthAll]⟩
    | cons n ns ih =>
      rw [List.map_cons, PyData.canLayAll0, PyData.depthAll, ih.1]
      refine ⟨rfl, ?_⟩
      have : (PyData.int n).depth ≤ 1 := by simp [PyData.depth]
      omega
  refine shaped_of (by rw [PyData.canLay0]; exact (a ns).1) ?_
  rw [PyData.depth]
  have := (a ns).2
  omega
theorem eqv_pd (a b : Int × Int) : PyData.eqv (pd a) (pd b) = decide (a = b) := by
  obtain ⟨a1, a2⟩ := a
  obtain ⟨b1, b2⟩ := b
  unfold pd
  rw [PyData.eqv, PyData.eqvAll, PyData.eqvAll, PyData.eqvAll, PyData.eqv, PyData.eqv]
  by_cases h1 : a1 = b1
  · by_cases h2 : a2 = b2
    · subst h1 h2
      simp
    · simp [h1, h2]
  · simp [h1]
theorem eqvAll_pd {α β : Type} (g : α → Int × Int) (g' : β → Int × Int) : ∀ (xs : List α) (ys : List β), PyData.eqvAll (xs.map fun x => pd (g x)) (ys.map fun x => pd (g' x)) = decide (xs.map g = ys.map g')
  | [], [] => by rw [List.map_nil, List.map_nil, List.map_nil, PyData.eqvAll]; simp
  | [], y :: ys => by rw [List.map_nil, List.map_cons, PyData.eqvAll]; simp
  | x :: xs, [] => by rw [List.map_cons, List.map_nil, PyData.eqvAll]; simp
  | x :: xs, y :: ys => by
    rw [List.map_cons, List.map_cons, PyData.eqvAll, eqv_pd, eqvAll_pd g g' xs ys]
    by_cases h1 : g x = g' y
    · by_cases h2 : xs.map g = ys.map g'
      · simp [h1, h2]
      · simp [h1, h2]
    · simp [h1]
theorem eqv_row {α β : Type} (g : α → Int × Int) (g' : β → Int × Int) (xs : List α) (ys : List β) : PyData.eqv (.list (xs.map fun x => pd (g x))) (.list (ys.map fun x => pd (g' x))) = decide (xs.map g = ys.map g') := by
  rw [PyData.eqv]
  exact eqvAll_pd g g' xs ys
theorem eqv_ints_nil (ns : List Int) : PyData.eqv (.list (ns.map PyData.int)) (.list []) = decide (ns = []) := by
  cases ns with
  | nil => rw [List.map_nil, PyData.eqv, PyData.eqvAll]; simp
  | cons n ns => rw [List.map_cons, PyData.eqv, PyData.eqvAll]; simp
theorem any_pd {α : Type} (g : α → Int × Int) (e : Int × Int) (xs : List α) : (xs.map fun x => pd (g x)).any (fun z => PyData.eqv z (pd e)) = decide (e ∈ xs.map g) := by
  induction xs with
  | nil => simp
  | cons x xs ih =>
    rw [List.map_cons, List.any_cons, ih, eqv_pd, List.map_cons]
    by_cases h1 : g x = e
    · simp [h1]
    · by_cases h2 : e ∈ xs.map g
      · simp [h2]
      · have h3 : ¬ e = g x := fun z => h1 z.symm
        simp [h1, h2, h3]
/-! ### great numbers -/
def CMulB (i j : Int) : Prop := Sm i ∧ Sm j
section
variable {X : Cx}
theorem op_mulB : OpR X (binaryOp .Mult) (rE CMulB fun i j => i * j) := by
  intro pins s σ H x y v u Q I rx ry q
  obtain ⟨i, j, z, e1, e2, ⟨h1, h2⟩, rfl, q⟩ := q
  exact op_mulW pins s σ H x y v u Q I rx ry ⟨i, j, e1, e2, wide_mul (a := 200) (b := 200) h1 h2 (by decide) (by decide) (by decide), q⟩
end
end Ord
namespace Ord
open PySem PySem.Spec PyProof.Rows L2 LamX
/-! ### the same rules, the written part named (for comprehensions) -/
section
variable {X : Cx} {K : PySem.W.Frag} {e : Expr} {te : TE} {p pos : Pos} {f : Str}
theorem ix_listK (hK : X.K = K := by rfl) : IxR X (rIxL K) := hK ▸ ix_list
theorem ix_tupK (hK : X.K = K := by rfl) : IxR X (rIxT K) := hK ▸ ix_tup
theorem sl_listK (hK : X.K = K := by rfl) : SlR X (rSlL K) := hK ▸ sl_list
theorem op_eqDK (hu : X.A.units + 64 < cLine) (hK : X.K = K := by rfl) : OpR X (compareOp .Eq) (rEqD K) := hK ▸ op_eqD hu
theorem op_neDK (hu : X.A.units + 64 < cLine) (hK : X.K = K := by rfl) : OpR X (compareOp .NotEq) (rNeD K) := hK ▸ op_neD hu
theorem op_inDK (hu : X.A.units + 65 < cLine) (hK : X.K = K := by rfl) : OpR X (compareOp .In) (rInD K) := hK ▸ op_inD hu
theorem op_notInDK (hu : X.A.units + 65 < cLine) (hK : X.K = K := by rfl) : OpR X (compareOp .NotIn) (rNotInD K) := hK ▸ op_notInD hu
theorem pe_lenK (mL : X.mg "len" = none) (h : PE X e te) (hK : X.K = K := by rfl) (hg : Gl X "len" := by rfl) (he : starEach [e] X.env = (false, eval e X.env) :: starEach [] X.env := by rfl) (hpl : (backTo pos (starEach [] X.env)).any (·.1) = false := by rfl) :
    PE X (.Call (.Name "len" p) [e] [] pos) (tCB (rLen1 K) (tCons te tNil)) := hK ▸ pe_len mL h hg he hpl
end
end Ord
namespace Ord
open PySem PySem.Spec PyProof.Rows L2 LamX
section
variable {X : Cx} {K : PySem.W.Frag} {e : Expr} {te : TE} {p pos : Pos} {f : Str}
theorem pg_tupK {es : List Expr} {k : Nat} {t : TGs} {n : Nat} (hc : X.calm = true) (h : PGs X es t) (hK : X.K = K := by rfl)
    (hn : (assignEach es X.env).length = n := by rfl) (hst : (assignEach es X.env).findIdx? (·.1) = none := by rfl) : PG X (.Tuple es k pos) (gTup K n t) := hK ▸ pg_tup hc h hn hst
theorem cr_allK (hc : X.calm = true) (hK : X.K = K := by rfl) : CallR X (.builtin "all") (rAll K) := hK ▸ cr_all hc
theorem cr_anyK (hc : X.calm = true) (hK : X.K = K := by rfl) : CallR X (.builtin "any") (rAny K) := hK ▸ cr_any hc
theorem pe_fldK (he : PE X e te) (hb : attributeBase e f X.env (eval e X.env) = eval e X.env) (hK : X.K = K := by rfl) : PE X (.Attribute e f pos) (tFld K te f) := hK ▸ pe_fld he hb
end
end Ord

namespace Ord
open PySem PySem.Spec PyProof.Rows L2 LamX
section
variable {P : Program} {w : World} {K : PySem.W.Frag} {mg : Str → Option Value} {base : Heap}
/-! ### _law_cell -/
def N__law_cell : List Str := ["_law_script", "_law_k"]
theorem sc__law_cell : FnScope ["_law_script", "_law_k"] ["_law_script", "_law_k"] (defScope st__law_cell) := ⟨rfl, rfl, rfl, by decide +kernel, rfl, by decide +kernel, by decide +kernel⟩
def spCellK (K : PySem.W.Frag) : Sp := fun vs H Q _ => ∃ (a : Addr) (ns : List Int) (k : Nat), vs = [.ref a, .int (k : Int)] ∧ SqL K H a (ns.map V.int) ∧ ns.length ≤ 1000 ∧ ∀ H', Same H H' → Q (.int (Mir.cellI ns k)) H'
theorem ok_cell (d__law_cell : Df K mg "_law_cell" st__law_cell ["_law_script", "_law_k"]) (mLen : mg "len" = none) : FnOk P w K mg base CX0 1 d__law_cell.f d__law_cell.fd ["_law_script", "_law_k"] (spCellK K) := by
  refine d__law_cell.F.ok sc__law_cell (fun vs H Q E h => ?_) (fun cdv A outer s H vs Q E hr h => ?_)
  · obtain ⟨a, ns, k, rfl, _⟩ := h
    rfl
  · obtain ⟨a, ns, k, rfl, hS, hz, hQ⟩ := h
    refine ⟨_, (pss_cons (ps_if (pt_cmpR (op_eqD hr.units) (pv 0) (pe_lst pa_nil) (nomark _))
    (pss_one (ps_ret (pe_op op_mulE (pv 1) pe_int)))
    pss_nil)
  (pss_one (ps_ret (pe_op op_addE (pe_ix ix_list (pv 0) (pe_op op_modE (pv 1) (pe_len mLen (pv 0))) (fun _ _ => rfl)) (pe_op op_mulE (pe_op op_fdivE (pv 1) (pe_len mLen (pv 0))) pe_int))))), ?_⟩
    refine ⟨_, rfl, Nat.zero_le _, fun p np => ?_⟩
    have s1 : Same H (upd H p (.lst [])) := fun b o e => by rw [upd_ne (ne_of_none e np)]; exact e
    have hS1 := s1.seq hS
    have el : ((ns.map V.int).length) = ns.length := List.length_map _
    refine ⟨.list (ns.map PyData.int), .list [], .lst hS1 (dp_ints ns), .lst (SqL.of upd_same) .nil, shaped_ints ns, shaped_nil, _, rfl, ?_⟩
    rw [eqv_ints_nil]
    refine iteD (fun h0 => ?_) (fun h0 => ?_)
    · refine ⟨_, rfl, _, _, _, rfl, rfl, .inr ⟨by decide, by decide⟩, rfl, ?_⟩
      have e : Mir.cellI ns k = (k : Int) * 7919 := if_pos h0
      rw [e] at hQ
      exact hQ _ s1
    · have hp : 0 < ns.length := List.length_pos_iff.mpr h0
      have hm : k % ns.length < ns.length := Nat.mod_lt _ hp
      refine ⟨_, rfl, _, rfl, _, rfl, a, _, rfl, .inl hS1, _, _, ((k % ns.length : Nat) : Int), rfl, rfl, by omega, by show ((k % ns.length : Nat) : Int) = (k : Int) % ((ns.map V.int).length : Nat); rw [el]; omega, ?_⟩
      refine ⟨a, _, _, .int (ns.getD (k % ns.length) 0), rfl, rfl, hS1, atI_nat (by rw [List.getElem?_map, List.getElem?_eq_getElem hm, List.getD_eq_getElem?_getD, List.getElem?_eq_getElem hm]; rfl), ?_⟩
      refine ⟨_, rfl, _, rfl, a, _, rfl, .inl hS1, _, _, ((k / ns.length : Nat) : Int), rfl, rfl, ⟨by omega, by omega⟩, by show ((k / ns.length : Nat) : Int) = (k : Int) / ((ns.map V.int).length : Nat); rw [el]; omega, ?_⟩
      refine ⟨_, _, _, rfl, rfl, .inr ⟨by decide, by decide⟩, rfl, _, _, _, rfl, rfl, rfl, ?_⟩
      have e : Mir.cellI ns k = ns.getD (k % ns.length) 0 + ((k / ns.length : Nat) : Int) * 104729 := if_neg h0
      rw [e] at hQ
      exact hQ _ s1
/-! ### _law_drawn -/
def N__law_drawn : List Str := ["_law_cell_here", "_law_k", "_law_more"]
theorem sc__law_drawn : FnScope ["_law_cell_here", "_law_k", "_law_more"] ["_law_cell_here", "_law_k"] (defScope st__law_drawn) := ⟨rfl, rfl, rfl, by decide +kernel, rfl, by decide +kernel, by decide +kernel⟩
def spDrawn : Sp := fun vs H Q _ => ∃ (c : Int) (k : Nat), vs = [.int c, .int (k : Int)] ∧ Q (.int (Mir.drawn c k)) H
theorem sm_more (c : Int) (k : Nat) : Sm (Mir.moreI c k) := by
  have h := Mir.moreI_nn c k
  refine Sm.of ?_ ?_
  · have : (0 : Int) ≤ 2 ^ 199 := by decide
    omega
  · have : (340282366920938463463374607431768211507 : Int) ≤ 2 ^ 199 := by decide
    omega
theorem ok_drawn (d__law_drawn : Df K mg "_law_drawn" st__law_drawn ["_law_cell_here", "_law_k"]) : FnOk P w K mg base CX0 1 d__law_drawn.f d__law_drawn.fd ["_law_cell_here", "_law_k"] spDrawn := by
  refine d__law_drawn.F.ok sc__law_drawn (fun vs H Q E h => ?_) (fun cdv A outer s H vs Q E hr h => ?_)
  · obtain ⟨c, k, rfl, _⟩ := h
    rfl
  · obtain ⟨c, k, rfl, hQ⟩ := h
    have nd := sc__law_drawn.nd
    refine ⟨_, (pss_cons (ps_set (i := 2) nd rfl (Or.inl rfl) (pe_op op_modE (pe_op op_addE (pe_op op_mulE (pv 0) pe_int) (pe_op op_mulE (pe_op op_addE (pv 1) pe_int) pe_int)) pe_int))
  (pss_one (ps_ret (pe_op op_modE (pe_op op_mulB (pv 2) (pv 2)) pe_int)))), ?_⟩
    refine ⟨_, rfl, _, _, _, rfl, rfl, .inr ⟨by decide, by decide⟩, rfl, _, rfl, _, _, _, rfl, rfl, rfl, _, _, _, rfl, rfl, .inr ⟨by decide, by decide⟩, rfl, _, _, _, rfl, rfl, rfl, _, _, Mir.moreI c k, rfl, rfl, (by show (0 : Int) < 340282366920938463463374607431768211507; decide), rfl, ?_⟩
    refine ⟨_, rfl, _, rfl, _, _, _, rfl, rfl, ⟨sm_more c k, sm_more c k⟩, rfl, _, _, Mir.drawn c k, rfl, rfl, (by show (0 : Int) < 340282366920938463463374607431768211297; decide), rfl, hQ⟩
end
end Ord

namespace Ord
open PySem PySem.Spec PyProof.Rows L2 LamX
theorem eqI {i j : Int} : V.int i = V.int j ↔ i = j := ⟨fun h => V.int.inj h, fun h => by rw [h]⟩
theorem iteI {i j : Int} {A B : Prop} (h1 : i = j → A) (h2 : ¬ i = j → B) : if decide (V.int i = V.int j) = true then A else B := iteD (fun e => h1 (eqI.mp e)) fun e => h2 fun z => e (eqI.mpr z)
section
variable {P : Program} {w : World} {K : PySem.W.Frag} {mg : Str → Option Value} {base : Heap}
/-! ### _law_answer -/
def N__law_answer : List Str := ["_law_way", "_law_one", "_law_other", "_law_gap"]
theorem sc__law_answer : FnScope ["_law_way", "_law_one", "_law_other", "_law_gap"] ["_law_way", "_law_one", "_law_other"] (defScope st__law_answer) := ⟨rfl, rfl, rfl, by decide +kernel, rfl, by decide +kernel, by decide +kernel⟩
def spAnswer : Sp := fun vs H Q _ => ∃ (way : Int) (x y : V) (ex ey : Int × Int), vs = [.int way, x, y] ∧ Pr H x ex ∧ Pr H y ey ∧ Sn ex.1 ∧ Sn ey.1 ∧ Q (.int (Mir.ansI way ex ey)) H
theorem ok_answer (d__law_answer : Df K mg "_law_answer" st__law_answer ["_law_way", "_law_one", "_law_other"]) (mInt : mg "int" = none) (mAbs : mg "abs" = none) : FnOk P w K mg base CX0 1 d__law_answer.f d__law_answer.fd ["_law_way", "_law_one", "_law_other"] spAnswer := by
  refine d__law_answer.F.ok sc__law_answer (fun vs H Q E h => ?_) (fun cdv A outer s H vs Q E hr h => ?_)
  · obtain ⟨way, x, y, ex, ey, rfl, _⟩ := h
    rfl
  · obtain ⟨way, x, y, ex, ey, rfl, ⟨p, rfl, hp⟩, ⟨q, rfl, hq⟩, s1, s2, hQ⟩ := h
    have nd := sc__law_answer.nd
    refine ⟨_, (pss_cons (ps_set (i := 3) nd rfl (Or.inl rfl) (pe_op op_subE (pe_ix ix_tup (pv 1) pe_int (fun _ _ => rfl)) (pe_ix ix_tup (pv 2) pe_int (fun _ _ => rfl))))
  (pss_cons (ps_if (pt_cmpR op_eq (pv 0) pe_int (nomark _))
    (pss_one (ps_ret (pe_op op_subE pe_int (pv 3))))
    pss_nil)
  (pss_cons (ps_if (pt_cmpR op_eq (pv 0) pe_int (nomark _))
    (pss_one (ps_ret (pe_op op_subE (pe_op op_fdivE (pe_ix ix_tup (pv 1) pe_int (fun _ _ => rfl)) pe_int) (pe_op op_fdivE (pe_ix ix_tup (pv 2) pe_int (fun _ _ => rfl)) pe_int))))
    pss_nil)
  (pss_cons (ps_if (pt_cmpR op_eq (pv 0) pe_int (nomark _))
    (pss_one (ps_ret (pe_op op_mulE (pe_op op_subE (pe_callTy call_int1 (by rfl) mInt (by decide +kernel) (pa_cons (pe_cmpR op_gt (pv 3) pe_int (nomark _)) pa_nil)) (pe_callTy call_int1 (by rfl) mInt (by decide +kernel) (pa_cons (pe_cmpR op_lt (pv 3) pe_int (nomark _)) pa_nil))) (pe_op op_addE pe_int (pe_op op_modE (pe_callB call_abs (by rfl) mAbs (by decide +kernel) (pa_cons (pe_ix ix_tup (pv 1) pe_int (fun _ _ => rfl)) pa_nil)) pe_int)))))
    pss_nil)
  (pss_cons (ps_if (pt_cmpR op_eq (pv 0) pe_int (nomark _))
    (pss_one (ps_ret (pe_op op_mulB (pv 3) (pe_op op_pow pe_int pe_int))))
    pss_nil)
  (pss_cons (ps_if (pt_cmpR op_eq (pv 0) pe_int (nomark _))
    (pss_one (ps_ret (pe_op op_subE (pe_callB call_abs (by rfl) mAbs (by decide +kernel) (pa_cons (pe_op op_subE (pe_ix ix_tup (pv 1) pe_int (fun _ _ => rfl)) pe_int) pa_nil)) (pe_callB call_abs (by rfl) mAbs (by decide +kernel) (pa_cons (pe_op op_subE (pe_ix ix_tup (pv 2) pe_int (fun _ _ => rfl)) pe_int) pa_nil)))))
    pss_nil)
  (pss_one (ps_ret (pv 3))))))))), ?_⟩
    refine ⟨_, rfl, p, _, 0, _, rfl, rfl, SqT.of hp, rfl, _, rfl, q, _, 0, _, rfl, rfl, SqT.of hq, rfl, _, _, ex.1 - ey.1, rfl, rfl, rfl, ?_⟩
    refine ⟨_, rfl, rfl, _, rfl, iteI (fun h1 => ?_) (fun h1 => ?_)⟩
    · refine ⟨_, rfl, _, _, Mir.ansI way ex ey, rfl, rfl, by unfold Mir.ansI; rw [if_pos h1], hQ⟩
    refine ⟨_, rfl, rfl, _, rfl, iteI (fun h2 => ?_) (fun h2 => ?_)⟩
    · refine ⟨_, rfl, p, _, 0, _, rfl, rfl, SqT.of hp, rfl, _, _, _, rfl, rfl, ⟨by decide, by decide⟩, rfl, _, rfl, q, _, 0, _, rfl, rfl, SqT.of hq, rfl, _, _, _, rfl, rfl, ⟨by decide, by decide⟩, rfl, _, _, Mir.ansI way ex ey, rfl, rfl, by unfold Mir.ansI; rw [if_neg h1, if_pos h2], hQ⟩
    refine ⟨_, rfl, rfl, _, rfl, iteI (fun h3 => ?_) (fun h3 => ?_)⟩
    · refine ⟨_, rfl, _, _, rfl, rfl, .inr ⟨_, rfl, _, rfl, _, _, rfl, rfl, .inr ⟨_, rfl, _, _, Mir.b01 (decide (0 < ex.1 - ey.1)) - Mir.b01 (decide (ex.1 - ey.1 < 0)), rfl, rfl, rfl, _, rfl, p, _, 1, _, rfl, rfl, SqT.of hp, rfl, _, rfl, _, _, _, rfl, rfl, (by show (0 : Int) < 9; decide), rfl, _, _, _, rfl, rfl, rfl, _, _, Mir.ansI way ex ey, rfl, rfl, .inl ?_, ?_, hQ⟩⟩⟩
      · unfold Mir.b01
        constructor <;> split <;> split <;> decide
      · unfold Mir.ansI
        rw [if_neg h1, if_neg h2, if_pos h3]
    refine ⟨_, rfl, rfl, _, rfl, iteI (fun h4 => ?_) (fun h4 => ?_)⟩
    · refine ⟨_, rfl, _, _, rfl, rfl, ⟨by decide, by decide, by decide⟩, _, _, Mir.ansI way ex ey, rfl, rfl, ⟨s1.sub s2, by unfold Sm; decide⟩, ?_, hQ⟩
      unfold Mir.ansI
      rw [if_neg h1, if_neg h2, if_neg h3, if_pos h4]
      congr 1
    refine ⟨_, rfl, rfl, _, rfl, iteI (fun h5 => ?_) (fun h5 => ?_)⟩
    · refine ⟨_, rfl, p, _, 0, _, rfl, rfl, SqT.of hp, rfl, _, _, _, rfl, rfl, rfl, _, rfl, _, rfl, q, _, 0, _, rfl, rfl, SqT.of hq, rfl, _, _, _, rfl, rfl, rfl, _, rfl, _, _, Mir.ansI way ex ey, rfl, rfl, ?_, hQ⟩
      unfold Mir.ansI
      rw [if_neg h1, if_neg h2, if_neg h3, if_neg h4, if_pos h5]
    refine ⟨_, rfl, ?_⟩
    have e : Mir.ansI way ex ey = ex.1 - ey.1 := by
      unfold Mir.ansI
      rw [if_neg h1, if_neg h2, if_neg h3, if_neg h4, if_neg h5]
    rw [e] at hQ
    exact hQ
/-! ### _law_ask -/
def N__law_ask : List Str := ["_law_asked", "_law_way", "_law_one", "_law_other"]
theorem sc__law_ask : FnScope ["_law_asked", "_law_way", "_law_one", "_law_other"] ["_law_asked", "_law_way", "_law_one", "_law_other"] (defScope st__law_ask) := ⟨rfl, rfl, rfl, by decide +kernel, rfl, by decide +kernel, by decide +kernel⟩
def spAskK : Sp := fun vs H Q _ => ∃ (q : Addr) (way : Int) (x y : V) (ex ey : Int × Int) (ps : List V), vs = [.ref q, .int way, x, y] ∧ H q = some (.lst ps) ∧ ps.length < 1000000 ∧ Pr H x ex ∧ Pr H y ey ∧ Sn ex.1 ∧ Sn ey.1 ∧
  ∀ t, H t = none → Q (.int (Mir.ansI way ex ey)) (upd (upd H t (.tup [x, y])) q (.lst (ps ++ [.ref t])))
theorem ok_ask (d__law_ask : Df K mg "_law_ask" st__law_ask ["_law_asked", "_law_way", "_law_one", "_law_other"]) (d__law_answer : Df K mg "_law_answer" st__law_answer ["_law_way", "_law_one", "_law_other"]) (mInt : mg "int" = none) (mAbs : mg "abs" = none) : FnOk P w K mg base CX0 2 d__law_ask.f d__law_ask.fd ["_law_asked", "_law_way", "_law_one", "_law_other"] spAskK := by
  have G__law_answer : FnOk P w K mg base CX0 1 d__law_answer.f d__law_answer.fd ["_law_way", "_law_one", "_law_other"] spAnswer := ok_answer d__law_answer mInt mAbs
  refine d__law_ask.F.ok sc__law_ask (fun vs H Q E h => ?_) (fun cdv A outer s H vs Q E hr h => ?_)
  · obtain ⟨q, way, x, y, ex, ey, ps, rfl, _⟩ := h
    rfl
  · obtain ⟨q, way, x, y, ex, ey, ps, rfl, hq, hl, hx, hy, s1, s2, hQ⟩ := h
    have nd := sc__law_ask.nd
    refine ⟨_, (pss_cons (ps_expr (pe_bm PySem.F.plainAttrs_list PySem.F.slot_list_append PySem.F.type_list_append mt_append (pv 0) (pa_cons (pe_tup (pa_cons (pv 2) (pa_cons (pv 3) pa_nil))) pa_nil)))
  (pss_one (ps_ret (pe_cd (d := d__law_answer) G__law_answer (hr.mono (by omega)) (pa_cons (pv 1) (pa_cons (pv 2) (pa_cons (pv 3) pa_nil))))))), ?_⟩
    refine ⟨_, rfl, .inl ⟨rfl, _, SqL.of hq⟩, _, rfl, _, rfl, by show 2 ≤ sizeLine; decide, fun t ht => ?_⟩
    have hqt : q ≠ t := ne_of_none hq ht
    refine ⟨q, ps, _, rfl, rfl, (upd_ne hqt).trans hq, Nat.lt_of_lt_of_le hl (by decide), ?_⟩
    have k1 : TK H (upd (upd H t (.tup [x, y])) q (.lst (ps ++ [.ref t]))) := (TK.new ht).trans (TK.wr ((upd_ne hqt).trans hq) nf_lst)
    exact ⟨_, rfl, _, rfl, _, rfl, way, x, y, ex, ey, rfl, hx.tk k1, hy.tk k1, s1, s2, hQ t ht⟩
/-! ### _law_log -/
def N__law_log : List Str := ["_law_many", "_law_found"]
theorem sc__law_log : FnScope ["_law_many", "_law_found"] ["_law_many"] (defScope st__law_log) := ⟨rfl, rfl, rfl, by decide +kernel, rfl, by decide +kernel, by decide +kernel⟩
def spLog : Sp := fun vs H Q _ => ∃ (n : Nat), vs = [.int (n : Int)] ∧ n ≤ 1000000 ∧ Q (.int ((Mir.clog n : Nat) : Int)) H
theorem ok_log (d__law_log : Df K mg "_law_log" st__law_log ["_law_many"]) : FnOk P w K mg base CX0 1 d__law_log.f d__law_log.fd ["_law_many"] spLog := by
  refine d__law_log.F.ok sc__law_log (fun vs H Q E h => ?_) (fun cdv A outer s H vs Q E hr h => ?_)
  · obtain ⟨n, rfl, _⟩ := h
    rfl
  · obtain ⟨n, rfl, hn, hQ⟩ := h
    have nd := sc__law_log.nd
    refine ⟨_, (pss_cons (ps_set (i := 1) nd rfl (Or.inl rfl) pe_int)
  (pss_cons (ps_while PassesOwn.never (pt_cmpR op_lt (pe_op op_shl pe_int (pv 1)) (pv 0) (nomark _))
    (pss_one (ps_set (i := 1) nd rfl (Or.inl rfl) (pe_op op_addE (pv 1) pe_int))))
  (pss_one (ps_ret (pv 1))))), ?_⟩
    have hc := Mir.clog_le_self n
    refine ⟨fun m σ H' => ∃ i : Nat, σ = [some (.int (n : Int)), some (.int (i : Int))] ∧ H' = H ∧ i ≤ Mir.clog n ∧ m = Mir.clog n - i, ⟨_, 0, rfl, rfl, Nat.zero_le _, rfl⟩, ?_⟩
    rintro m σ H' ⟨i, rfl, rfl, hi, rfl⟩
    refine ⟨_, rfl, _, _, rfl, rfl, ⟨by omega, by omega, by decide⟩, _, rfl, _, _, rfl, rfl, _, rfl, ?_⟩
    have e : ((1 : Int) * 2 ^ (i : Int).toNat < (n : Int)) ↔ i < Mir.clog n := by
      rw [← Mir.clog_lt]
      rw [Int.toNat_natCast, Int.one_mul]
      norm_cast
    refine iteD (fun h => ?_) (fun h => ?_)
    · have hlt := e.mp h
      refine ⟨_, fun _ _ h => h, ?_⟩
      exact ⟨_, rfl, _, _, ((i + 1 : Nat) : Int), rfl, rfl, rfl, _, by omega, i + 1, rfl, rfl, by omega, rfl⟩
    · have hge : i = Mir.clog n := by
        have := fun z => h (e.mpr z)
        omega
      rw [← hge] at hQ
      exact ⟨_, rfl, hQ⟩
end
end Ord

namespace Ord
open PySem PySem.Spec PyProof.Rows L2 LamX
theorem getE_map {α β : Type} {g : α → β} {xs : List α} {i : Nat} {x : α} (h : xs[i]? = some x) : (xs.map g)[i]? = some (g x) := by rw [List.getElem?_map, h]; rfl
section
variable {P : Program} {w : World} {K : PySem.W.Frag} {mg : Str → Option Value} {base : Heap}
/-! ### _law_row -/
def N__law_row : List Str := ["_law_script", "_law_start", "_law_many", "_law_spread", "_law_k"]
theorem sc__law_row : FnScope ["_law_script", "_law_start", "_law_many", "_law_spread", "_law_k"] ["_law_script", "_law_start", "_law_many", "_law_spread"] (defScope st__law_row) := ⟨rfl, rfl, rfl, by decide +kernel, rfl, by decide +kernel, by decide +kernel⟩
def spRowK (K : PySem.W.Frag) : Sp := fun vs H Q _ => ∃ (a : Addr) (ns : List Int) (st n : Nat) (sp : Int), vs = [.ref a, .int (st : Int), .int (n : Int), .int sp] ∧ SqL K H a (ns.map V.int) ∧ ns.length ≤ 1000 ∧ n ≤ 100 ∧ 0 < sp ∧ sp ≤ 1000000 ∧
  ∀ (H' : Hp) (p : Addr) (xs : List V) (c : V → Int × Int), Same H H' → H p = none → H' p = some (.lst xs) → xs.length = n → Els c xs H' → (∀ (i : Nat) (x : V), xs[i]? = some x → (c x).2 = (i : Int) ∧ 0 ≤ (c x).1 ∧ (c x).1 < sp) → Q (.ref p) H'
theorem ok_row (d__law_row : Df K mg "_law_row" st__law_row ["_law_script", "_law_start", "_law_many", "_law_spread"]) (d__law_cell : Df K mg "_law_cell" st__law_cell ["_law_script", "_law_k"]) (d__law_drawn : Df K mg "_law_drawn" st__law_drawn ["_law_cell_here", "_law_k"]) (mLen : mg "len" = none) (mRange : mg "range" = none) : FnOk P w K mg base CX0 2 d__law_row.f d__law_row.fd ["_law_script", "_law_start", "_law_many", "_law_spread"] (spRowK K) := by
  have G__law_cell : FnOk P w K mg base CX0 1 d__law_cell.f d__law_cell.fd ["_law_script", "_law_k"] (spCellK K) := ok_cell d__law_cell mLen
  have G__law_drawn : FnOk P w K mg base CX0 1 d__law_drawn.f d__law_drawn.fd ["_law_cell_here", "_law_k"] spDrawn := ok_drawn d__law_drawn
  refine d__law_row.F.ok sc__law_row (fun vs H Q E h => ?_) (fun cdv A outer s H vs Q E hr h => ?_)
  · obtain ⟨a, ns, st, n, sp, rfl, _⟩ := h
    rfl
  · obtain ⟨a, ns, st, n, sp, rfl, hS, hz, hn, sp0, sp1, hQ⟩ := h
    have nd := sc__law_row.nd
    refine ⟨_, (pss_one (ps_ret (pe_lc (own := [("_law_k", 4)]) (g := gName 4) rfl nd (pi_range1 (by rfl) mRange (pa_cons (pv 2) pa_nil)) (blkOk_by (own := [("_law_k", 4)]) (N := N__law_row) (sc := defScope st__law_row) (by decide +kernel)) (fun _ _ _ _ _ => pg_name (i := 4) nd rfl (Or.inl rfl)) (fun _ _ _ _ _ => pts_nil) (fun _ _ _ _ _ => (pe_tup (pa_cons (pe_op op_modE (pe_cd (d := d__law_drawn) G__law_drawn (hr.mono (by omega)) (pa_cons (pe_cd (d := d__law_cell) G__law_cell (hr.mono (by omega)) (pa_cons (pv 0) (pa_cons (pe_op op_addE (pv 1) (pv 4)) pa_nil))) (pa_cons (pv 4) pa_nil))) (pv 3)) (pa_cons (pv 4) pa_nil))))))), ?_⟩
    refine ⟨_, rfl, (n : Int), rfl, by omega, by omega, fun D hD => ?_⟩
    refine lc_range (lo := 0) (n := (n : Int).toNat) (fun i H1 => ∃ xs, Same H H1 ∧ H1 D = some (.lst xs) ∧ xs.length = i ∧ ∀ (j : Nat) (x : V), xs[j]? = some x → ∃ v, Pr H1 x (v, (j : Int)) ∧ 0 ≤ v ∧ v < sp) ⟨[], fun b o e => by rw [upd_ne (ne_of_none e hD)]; exact e, upd_same, rfl, fun j x e => by simp at e⟩ ?_ ?_
    · rintro i H1 hi ⟨xs, s1, h1, hl, hx⟩
      rw [show ((0 : Int) + (i : Nat)) = ((i : Nat) : Int) from Int.zero_add _]
      refine ⟨rfl, ?_⟩
      refine ⟨_, rfl, _, rfl, _, rfl, _, _, ((st + i : Nat) : Int), rfl, rfl, by show ((st + i : Nat) : Int) = (st : Int) + (i : Int); omega, a, ns, st + i, rfl, s1.seq hS, hz, fun H2 s2 => ?_⟩
      refine ⟨_, rfl, _, i, rfl, ?_⟩
      have hd := Mir.drawn_nn (Mir.cellI ns (st + i)) i
      have hm0 := Int.emod_nonneg (Mir.drawn (Mir.cellI ns (st + i)) i) (show sp ≠ 0 by omega)
      have hm1 := Int.emod_lt_of_pos (Mir.drawn (Mir.cellI ns (st + i)) i) sp0
      refine ⟨_, rfl, _, _, Mir.drawn (Mir.cellI ns (st + i)) i % sp, rfl, rfl, sp0, rfl, _, rfl, by show 2 ≤ sizeLine; decide, fun t ht => ?_⟩
      have h2D : H2 D = some (.lst xs) := s2 _ _ h1
      have hDt : D ≠ t := ne_of_none h2D ht
      refine ⟨xs, (upd_ne hDt).trans h2D, small1000 (by omega), xs ++ [.ref t], fun b o e => ?_, upd_same, by rw [List.length_append, hl]; rfl, fun j x e => ?_⟩
      · rw [upd_ne (ne_of_none e hD), upd_ne (ne_of_none (s2 _ _ (s1 _ _ e)) ht)]
        exact s2 _ _ (s1 _ _ e)
      · have kT : TK H2 (upd (upd H2 t (.tup [.int (Mir.drawn (Mir.cellI ns (st + i)) i % sp), .int (i : Int)])) D (.lst (xs ++ [.ref t]))) := (TK.new ht).trans (TK.wr ((upd_ne hDt).trans h2D) nf_lst)
        by_cases hj : j < xs.length
        · rw [List.getElem?_append_left hj] at e
          obtain ⟨v, hp, hv⟩ := hx j x e
          exact ⟨v, (hp.tk (Same.tk s2)).tk kT, hv⟩
        · rw [List.getElem?_append_right (by omega)] at e
          have ej : j = i := by
            have := (List.getElem?_eq_some_iff.mp e).1
            simp only [List.length_singleton] at this
            omega
          subst ej
          rw [hl, Nat.sub_self] at e
          cases e
          exact ⟨_, ⟨t, rfl, (upd_ne hDt.symm).trans upd_same⟩, hm0, hm1⟩
    · rintro H1 ⟨xs, s1, h1, hl, hx⟩
      have key : ∀ (i : Nat) (x : V), xs[i]? = some x → Pr H1 x (cnt H1 x) ∧ (cnt H1 x).2 = (i : Int) ∧ 0 ≤ (cnt H1 x).1 ∧ (cnt H1 x).1 < sp := fun i x e => by
        obtain ⟨v, hp, hv⟩ := hx i x e
        rw [hp.cnt]
        exact ⟨hp, rfl, hv⟩
      refine hQ H1 D xs (cnt H1) s1 hD h1 (by omega) (fun x hx' => ?_) fun i x e => (key i x e).2
      obtain ⟨i, e⟩ := List.mem_iff_getElem?.mp hx'
      have k := key i x e
      have hi := (List.getElem?_eq_some_iff.mp e).1
      exact ⟨k.1, Sn.of (by omega) (by omega), Sn.of (by omega) (by omega)⟩
/-! ### _law_size -/
def N__law_size : List Str := ["_law_script", "_law_most", "_law_more"]
theorem sc__law_size : FnScope ["_law_script", "_law_most", "_law_more"] ["_law_script", "_law_most"] (defScope st__law_size) := ⟨rfl, rfl, rfl, by decide +kernel, rfl, by decide +kernel, by decide +kernel⟩
def spSizeK (K : PySem.W.Frag) : Sp := fun vs H Q _ => ∃ (a : Addr) (ns : List Int) (most : Nat), vs = [.ref a, .int (most : Int)] ∧ SqL K H a (ns.map V.int) ∧ ns.length ≤ 1000 ∧ 5 ≤ most ∧ most ≤ 1000 ∧
  ∀ (H' : Hp) (n : Nat), Same H H' → n ≤ most → Q (.int (n : Int)) H'
theorem ok_size (d__law_size : Df K mg "_law_size" st__law_size ["_law_script", "_law_most"]) (d__law_cell : Df K mg "_law_cell" st__law_cell ["_law_script", "_law_k"]) (d__law_drawn : Df K mg "_law_drawn" st__law_drawn ["_law_cell_here", "_law_k"]) (mLen : mg "len" = none) (mMin : mg "min" = none) : FnOk P w K mg base CX0 2 d__law_size.f d__law_size.fd ["_law_script", "_law_most"] (spSizeK K) := by
  have G__law_cell : FnOk P w K mg base CX0 1 d__law_cell.f d__law_cell.fd ["_law_script", "_law_k"] (spCellK K) := ok_cell d__law_cell mLen
  have G__law_drawn : FnOk P w K mg base CX0 1 d__law_drawn.f d__law_drawn.fd ["_law_cell_here", "_law_k"] spDrawn := ok_drawn d__law_drawn
  refine d__law_size.F.ok sc__law_size (fun vs H Q E h => ?_) (fun cdv A outer s H vs Q E hr h => ?_)
  · obtain ⟨a, ns, most, rfl, _⟩ := h
    rfl
  · obtain ⟨a, ns, most, rfl, hS, hz, hm, hm1, hQ⟩ := h
    have nd := sc__law_size.nd
    refine ⟨_, (pss_cons (ps_set (i := 2) nd rfl (Or.inl rfl) (pe_cd (d := d__law_drawn) G__law_drawn (hr.mono (by omega)) (pa_cons (pe_cd (d := d__law_cell) G__law_cell (hr.mono (by omega)) (pa_cons (pv 0) (pa_cons pe_int pa_nil))) (pa_cons pe_int pa_nil))))
  (pss_one (ps_ret (pe_ix ix_list (pe_lst (pa_cons (pe_op op_modE (pe_op op_fdivE (pv 2) pe_int) (pe_op op_addE (pv 1) pe_int)) (pa_cons (pe_callB (call_min2 rfl) (by rfl) mMin (by decide +kernel) (pa_cons (pv 1) (pa_cons (pe_len mLen (pv 0)) pa_nil))) (pa_cons (pe_op op_modE (pe_op op_fdivE (pv 2) pe_int) pe_int) (pa_cons (pe_op op_subE (pv 1) (pe_op op_modE (pe_op op_fdivE (pv 2) pe_int) pe_int)) pa_nil))))) (pe_op op_modE (pv 2) pe_int) (fun _ _ => rfl))))), ?_⟩
    refine ⟨_, rfl, a, ns, 0, rfl, hS, hz, fun H1 s1 => ⟨_, 9000, rfl, ?_⟩⟩
    obtain ⟨m, em⟩ : ∃ m, m = Mir.drawn (Mir.cellI ns 0) 9000 := ⟨_, rfl⟩
    have hd := Mir.drawn_nn (Mir.cellI ns 0) 9000
    rw [← em] at hd ⊢
    have hQ' : ∀ (z : Int) (H' : Hp), 0 ≤ z → z ≤ most → Same H H' → Q (.int z) H' := fun z H' h0 h1 s => by
      have h := hQ H' z.toNat s (by omega)
      rw [Int.toNat_of_nonneg h0] at h
      exact h
    have hlen : ((ns.map V.int).length) = ns.length := List.length_map _
    refine ⟨_, rfl, _, _, _, rfl, rfl, ⟨by decide, by decide⟩, rfl, _, rfl, _, _, _, rfl, rfl, rfl, _, _, _, rfl, rfl, (by show (0 : Int) < (most : Int) + 1; omega), rfl, ?_⟩
    refine ⟨_, rfl, _, rfl, a, _, rfl, .inl (s1.seq hS), _, _, rfl, ?_⟩
    refine ⟨_, rfl, _, _, _, rfl, rfl, ⟨by decide, by decide⟩, rfl, _, _, _, rfl, rfl, (by show (0 : Int) < 6; decide), rfl, ?_⟩
    refine ⟨_, rfl, _, rfl, _, _, _, rfl, rfl, ⟨by decide, by decide⟩, rfl, _, _, _, rfl, rfl, (by show (0 : Int) < 3; decide), rfl, _, _, _, rfl, rfl, rfl, ?_⟩
    refine ⟨by show 4 ≤ sizeLine; decide, fun p np => ?_⟩
    have s2 : ∀ o, Same H (upd H1 p o) := fun o b u e => by rw [upd_ne (ne_of_none (s1 _ _ e) np)]; exact s1 _ _ e
    obtain ⟨r, hr4, er⟩ : ∃ r : Nat, r < 4 ∧ m % 4 = (r : Int) := ⟨(m % 4).toNat, by omega, by omega⟩
    refine ⟨_, rfl, _, _, (r : Int), rfl, rfl, (by show (0 : Int) < 4; decide), er.symm, ?_⟩
    have hh : r = 0 ∨ r = 1 ∨ r = 2 ∨ r = 3 := by omega
    rcases hh with h | h | h | h <;> subst h
    · refine ⟨p, _, _, _, rfl, rfl, SqL.of upd_same, rfl, hQ' _ _ ?_ ?_ (s2 _)⟩
      · exact Int.emod_nonneg _ (show (most : Int) + 1 ≠ 0 by omega)
      · have := Int.emod_lt_of_pos (m / 8) (show (0 : Int) < (most : Int) + 1 by omega)
        show m / 8 % ((most : Int) + 1) ≤ most
        omega
    · refine ⟨p, _, _, _, rfl, rfl, SqL.of upd_same, rfl, hQ' _ _ ?_ ?_ (s2 _)⟩
      · show 0 ≤ if (((ns.map V.int).length : Nat) : Int) < (most : Int) then (((ns.map V.int).length : Nat) : Int) else (most : Int)
        split <;> omega
      · show (if (((ns.map V.int).length : Nat) : Int) < (most : Int) then (((ns.map V.int).length : Nat) : Int) else (most : Int)) ≤ most
        split <;> omega
    · refine ⟨p, _, _, _, rfl, rfl, SqL.of upd_same, rfl, hQ' _ _ ?_ ?_ (s2 _)⟩
      · show 0 ≤ m / 8 % 6
        omega
      · show m / 8 % 6 ≤ (most : Int)
        omega
    · refine ⟨p, _, _, _, rfl, rfl, SqL.of upd_same, rfl, hQ' _ _ ?_ ?_ (s2 _)⟩
      · show 0 ≤ (most : Int) - m / 8 % 3
        omega
      · show (most : Int) - m / 8 % 3 ≤ (most : Int)
        omega
end
end Ord

/-! What the defs of yourorder.rows compute, over any answers. -/
namespace Mir
section
variable {α : Type}
abbrev Ans (α : Type) := List (α × α) → α → α → Int
def mrg (ans : Ans α) : List α → List α → List (α × α) → List α × List (α × α)
  | [], ys, l => (ys, l)
  | x :: xs, [], l => (x :: xs, l)
  | x :: xs, y :: ys, l =>
    if ans l x y ≤ 0 then (x :: (mrg ans xs (y :: ys) (l ++ [(x, y)])).1, (mrg ans xs (y :: ys) (l ++ [(x, y)])).2)
    else (y :: (mrg ans (x :: xs) ys (l ++ [(x, y)])).1, (mrg ans (x :: xs) ys (l ++ [(x, y)])).2)
termination_by xs ys => xs.length + ys.length
theorem mrg_nil (ans : Ans α) (ys : List α) (l : List (α × α)) : mrg ans [] ys l = (ys, l) := by unfold mrg; rfl
theorem mrg_nil2 (ans : Ans α) (xs : List α) (l : List (α × α)) : mrg ans xs [] l = (xs, l) := by
  cases xs with
  | nil => unfold mrg; rfl
  | cons x xs => unfold mrg; rfl
theorem mrg_cons (ans : Ans α) (x y : α) (xs ys : List α) (l : List (α × α)) : mrg ans (x :: xs) (y :: ys) l =
    if ans l x y ≤ 0 then (x :: (mrg ans xs (y :: ys) (l ++ [(x, y)])).1, (mrg ans xs (y :: ys) (l ++ [(x, y)])).2)
    else (y :: (mrg ans (x :: xs) ys (l ++ [(x, y)])).1, (mrg ans (x :: xs) ys (l ++ [(x, y)])).2) := by
  rw [mrg]
theorem drop_cons {xs : List α} {i : Nat} {x : α} (e : xs[i]? = some x) : xs.drop i = x :: xs.drop (i + 1) := by
  obtain ⟨h, e⟩ := List.getElem?_eq_some_iff.mp e
  rw [← e]
  exact List.drop_eq_getElem_cons h
/-- all but the last two questions' lengths: how long what is told is -/
theorem mrg_len (ans : Ans α) : ∀ (xs ys : List α) (l : List (α × α)), (mrg ans xs ys l).1.length = xs.length + ys.length
  | [], ys, l => by rw [mrg_nil]; simp
  | x :: xs, [], l => by rw [mrg_nil2]; simp
  | x :: xs, y :: ys, l => by
    have h1 := mrg_len ans xs (y :: ys) (l ++ [(x, y)])
    have h2 := mrg_len ans (x :: xs) ys (l ++ [(x, y)])
    rw [mrg_cons]
    split
    · simp only [List.length_cons] at h1 ⊢
      omega
    · simp only [List.length_cons] at h2 ⊢
      omega
termination_by xs ys => xs.length + ys.length
def stab (ans : Ans α) (xs : List α) (l : List (α × α)) : List α × List (α × α) :=
  if h : xs.length < 2 then (xs, l)
  else
    let a := stab ans (xs.take ((xs.length + 1) / 2)) l
    let b := stab ans (xs.drop ((xs.length + 1) / 2)) a.2
    match a.1.getLast?, b.1.head? with
    | some x, some y => if ans b.2 x y ≤ 0 then (a.1 ++ b.1, b.2 ++ [(x, y)]) else mrg ans a.1 b.1 (b.2 ++ [(x, y)])
    | _, _ => (a.1 ++ b.1, b.2)
termination_by xs.length
decreasing_by
  · rw [List.length_take]; omega
  · rw [List.length_drop]; omega
theorem mrg_mem (ans : Ans α) : ∀ (xs ys : List α) (l : List (α × α)) (z : α), z ∈ (mrg ans xs ys l).1 → z ∈ xs ∨ z ∈ ys
  | [], ys, l, z, h => by rw [mrg_nil] at h; exact .inr h
  | x :: xs, [], l, z, h => by rw [mrg_nil2] at h; exact .inl h
  | x :: xs, y :: ys, l, z, h => by
    have h1 := mrg_mem ans xs (y :: ys) (l ++ [(x, y)]) z
    have h2 := mrg_mem ans (x :: xs) ys (l ++ [(x, y)]) z
    rw [mrg_cons] at h
    split at h
    · rcases List.mem_cons.mp h with e | e
      · exact .inl (List.mem_cons.mpr (.inl e))
      · rcases h1 e with q | q
        · exact .inl (List.mem_cons_of_mem _ q)
        · exact .inr q
    · rcases List.mem_cons.mp h with e | e
      · exact .inr (List.mem_cons.mpr (.inl e))
      · rcases h2 e with q | q
        · exact .inl q
        · exact .inr (List.mem_cons_of_mem _ q)
termination_by xs ys => xs.length + ys.length
theorem stab_small (ans : Ans α) {xs : List α} (l : List (α × α)) (h : xs.length < 2) : stab ans xs l = (xs, l) := by
  rw [stab, dif_pos h]
theorem stab_big (ans : Ans α) {xs : List α} (l : List (α × α)) (h : ¬ xs.length < 2) : stab ans xs l =
    match (stab ans (xs.take ((xs.length + 1) / 2)) l).1.getLast?, (stab ans (xs.drop ((xs.length + 1) / 2)) (stab ans (xs.take ((xs.length + 1) / 2)) l).2).1.head? with
    | some x, some y => if ans (stab ans (xs.drop ((xs.length + 1) / 2)) (stab ans (xs.take ((xs.length + 1) / 2)) l).2).2 x y ≤ 0 then ((stab ans (xs.take ((xs.length + 1) / 2)) l).1 ++ (stab ans (xs.drop ((xs.length + 1) / 2)) (stab ans (xs.take ((xs.length + 1) / 2)) l).2).1, (stab ans (xs.drop ((xs.length + 1) / 2)) (stab ans (xs.take ((xs.length + 1) / 2)) l).2).2 ++ [(x, y)])
      else mrg ans (stab ans (xs.take ((xs.length + 1) / 2)) l).1 (stab ans (xs.drop ((xs.length + 1) / 2)) (stab ans (xs.take ((xs.length + 1) / 2)) l).2).1 ((stab ans (xs.drop ((xs.length + 1) / 2)) (stab ans (xs.take ((xs.length + 1) / 2)) l).2).2 ++ [(x, y)])
    | _, _ => ((stab ans (xs.take ((xs.length + 1) / 2)) l).1 ++ (stab ans (xs.drop ((xs.length + 1) / 2)) (stab ans (xs.take ((xs.length + 1) / 2)) l).2).1, (stab ans (xs.drop ((xs.length + 1) / 2)) (stab ans (xs.take ((xs.length + 1) / 2)) l).2).2) := by
  rw [stab, dif_neg h]
/-- the step by what the halves give -/
theorem stab_step (ans : Ans α) {xs : List α} (l : List (α × α)) (h : ¬ xs.length < 2) {a b : List α × List (α × α)} (ea : stab ans (xs.take ((xs.length + 1) / 2)) l = a) (eb : stab ans (xs.drop ((xs.length + 1) / 2)) a.2 = b) {x y : α} (ex : a.1.getLast? = some x) (ey : b.1.head? = some y) :
    stab ans xs l = if ans b.2 x y ≤ 0 then (a.1 ++ b.1, b.2 ++ [(x, y)]) else mrg ans a.1 b.1 (b.2 ++ [(x, y)]) := by
  rw [stab_big ans l h, ea, eb, ex, ey]
theorem stab_len (ans : Ans α) (n : Nat) : ∀ (xs : List α) (l : List (α × α)), xs.length ≤ n → (stab ans xs l).1.length = xs.length := by
  induction n with
  | zero => intro xs l h; rw [stab_small ans l (by omega)]
  | succ n ih =>
    intro xs l h
    by_cases h2 : xs.length < 2
    · rw [stab_small ans l h2]
    · have t1 : (xs.take ((xs.length + 1) / 2)).length = (xs.length + 1) / 2 := by rw [List.length_take]; omega
      have t2 : (xs.drop ((xs.length + 1) / 2)).length = xs.length - (xs.length + 1) / 2 := List.length_drop
      have i1 := ih (xs.take ((xs.length + 1) / 2)) l (by omega)
      have i2 := ih (xs.drop ((xs.length + 1) / 2)) (stab ans (xs.take ((xs.length + 1) / 2)) l).2 (by omega)
      obtain ⟨x, ex⟩ : ∃ x, (stab ans (xs.take ((xs.length + 1) / 2)) l).1.getLast? = some x := by
        rw [List.getLast?_eq_getElem?]
        exact ⟨_, List.getElem?_eq_getElem (by omega)⟩
      obtain ⟨y, ey⟩ : ∃ y, (stab ans (xs.drop ((xs.length + 1) / 2)) (stab ans (xs.take ((xs.length + 1) / 2)) l).2).1.head? = some y := by
        rw [List.head?_eq_getElem?]
        exact ⟨_, List.getElem?_eq_getElem (by omega)⟩
      rw [stab_step ans l h2 rfl rfl ex ey]
      split
      · rw [List.length_append]; omega
      · rw [mrg_len]; omega
theorem stab_mem (ans : Ans α) (n : Nat) : ∀ (xs : List α) (l : List (α × α)) (z : α), xs.length ≤ n → z ∈ (stab ans xs l).1 → z ∈ xs := by
  induction n with
  | zero => intro xs l z h hz; rw [stab_small ans l (by omega)] at hz; exact hz
  | succ n ih =>
    intro xs l z h hz
    by_cases h2 : xs.length < 2
    · rw [stab_small ans l h2] at hz; exact hz
    · have t1 : (xs.take ((xs.length + 1) / 2)).length = (xs.length + 1) / 2 := by rw [List.length_take]; omega
      have t2 : (xs.drop ((xs.length + 1) / 2)).length = xs.length - (xs.length + 1) / 2 := List.length_drop
      have l1 := stab_len ans n (xs.take ((xs.length + 1) / 2)) l (by omega)
      have l2 := stab_len ans n (xs.drop ((xs.length + 1) / 2)) (stab ans (xs.take ((xs.length + 1) / 2)) l).2 (by omega)
      have i1 := ih (xs.take ((xs.length + 1) / 2)) l z (by omega)
      have i2 := ih (xs.drop ((xs.length + 1) / 2)) (stab ans (xs.take ((xs.length + 1) / 2)) l).2 z (by omega)
      have key : z ∈ (stab ans (xs.take ((xs.length + 1) / 2)) l).1 ∨ z ∈ (stab ans (xs.drop ((xs.length + 1) / 2)) (stab ans (xs.take ((xs.length + 1) / 2)) l).2).1 → z ∈ xs := fun q => q.elim (fun q => List.mem_of_mem_take (i1 q)) fun q => List.mem_of_mem_drop (i2 q)
      obtain ⟨x, ex⟩ : ∃ x, (stab ans (xs.take ((xs.length + 1) / 2)) l).1.getLast? = some x := by
        rw [List.getLast?_eq_getElem?]
        exact ⟨_, List.getElem?_eq_getElem (by omega)⟩
      obtain ⟨y, ey⟩ : ∃ y, (stab ans (xs.drop ((xs.length + 1) / 2)) (stab ans (xs.take ((xs.length + 1) / 2)) l).2).1.head? = some y := by
        rw [List.head?_eq_getElem?]
        exact ⟨_, List.getElem?_eq_getElem (by omega)⟩
      rw [stab_step ans l h2 rfl rfl ex ey] at hz
      split at hz
      · exact key (List.mem_append.mp hz)
      · exact key (mrg_mem ans _ _ _ z hz)
theorem mrg_cnt (ans : Ans α) : ∀ (xs ys : List α) (l : List (α × α)), l.length ≤ (mrg ans xs ys l).2.length ∧ (mrg ans xs ys l).2.length ≤ l.length + (xs.length + ys.length - 1) ∧ ((xs = [] ∨ ys = []) → (mrg ans xs ys l).2 = l)
  | [], ys, l => by rw [mrg_nil]; exact ⟨Nat.le_refl _, Nat.le_add_right _ _, fun _ => rfl⟩
  | x :: xs, [], l => by rw [mrg_nil2]; exact ⟨Nat.le_refl _, Nat.le_add_right _ _, fun _ => rfl⟩
  | x :: xs, y :: ys, l => by
    have h1 := mrg_cnt ans xs (y :: ys) (l ++ [(x, y)])
    have h2 := mrg_cnt ans (x :: xs) ys (l ++ [(x, y)])
    rw [mrg_cons]
    split
    · simp only [List.length_append, List.length_cons, List.length_nil] at h1 ⊢
      refine ⟨by omega, by omega, fun h => ?_⟩
      rcases h with h | h <;> cases h
    · simp only [List.length_append, List.length_cons, List.length_nil] at h2 ⊢
      refine ⟨by omega, by omega, fun h => ?_⟩
      rcases h with h | h <;> cases h
termination_by xs ys => xs.length + ys.length
theorem clog_half {n : Nat} (h : ¬ n < 2) : clog n = clog ((n + 1) / 2) + 1 := by
  rw [clog, if_neg (by omega)]
theorem stab_cnt (ans : Ans α) (n : Nat) : ∀ (xs : List α) (l : List (α × α)), xs.length ≤ n → l.length ≤ (stab ans xs l).2.length ∧ (stab ans xs l).2.length ≤ l.length + xs.length * clog xs.length := by
  induction n with
  | zero => intro xs l h; rw [stab_small ans l (by omega)]; exact ⟨Nat.le_refl _, Nat.le_add_right _ _⟩
  | succ n ih =>
    intro xs l h
    by_cases h2 : xs.length < 2
    · rw [stab_small ans l h2]; exact ⟨Nat.le_refl _, Nat.le_add_right _ _⟩
    · have t1 : (xs.take ((xs.length + 1) / 2)).length = (xs.length + 1) / 2 := by rw [List.length_take]; omega
      have t2 : (xs.drop ((xs.length + 1) / 2)).length = xs.length - (xs.length + 1) / 2 := List.length_drop
      have i1 := ih (xs.take ((xs.length + 1) / 2)) l (by omega)
      have i2 := ih (xs.drop ((xs.length + 1) / 2)) (stab ans (xs.take ((xs.length + 1) / 2)) l).2 (by omega)
      have l1 := stab_len ans n (xs.take ((xs.length + 1) / 2)) l (by omega)
      have l2 := stab_len ans n (xs.drop ((xs.length + 1) / 2)) (stab ans (xs.take ((xs.length + 1) / 2)) l).2 (by omega)
      rw [t1] at i1 l1
      rw [t2] at i2 l2
      obtain ⟨c, ec⟩ : ∃ c, c = clog ((xs.length + 1) / 2) := ⟨_, rfl⟩
      have m2 : clog (xs.length - (xs.length + 1) / 2) ≤ c := by rw [ec]; exact clog_mono (by omega)
      have m3 := Nat.mul_le_mul_left (xs.length - (xs.length + 1) / 2) m2
      have m4 : (xs.length + 1) / 2 * c + (xs.length - (xs.length + 1) / 2) * c = xs.length * c := by
        rw [← Nat.add_mul]
        congr 1
        omega
      have m5 : xs.length * (c + 1) = xs.length * c + xs.length := Nat.mul_succ _ _
      rw [clog_half h2, ← ec, m5]
      rw [← ec] at i1
      obtain ⟨x, ex⟩ : ∃ x, (stab ans (xs.take ((xs.length + 1) / 2)) l).1.getLast? = some x := by
        rw [List.getLast?_eq_getElem?]
        exact ⟨_, List.getElem?_eq_getElem (by omega)⟩
      obtain ⟨y, ey⟩ : ∃ y, (stab ans (xs.drop ((xs.length + 1) / 2)) (stab ans (xs.take ((xs.length + 1) / 2)) l).2).1.head? = some y := by
        rw [List.head?_eq_getElem?]
        exact ⟨_, List.getElem?_eq_getElem (by omega)⟩
      rw [stab_step ans l h2 rfl rfl ex ey]
      split
      · rw [List.length_append, List.length_singleton]
        omega
      · have q := mrg_cnt ans (stab ans (xs.take ((xs.length + 1) / 2)) l).1 (stab ans (xs.drop ((xs.length + 1) / 2)) (stab ans (xs.take ((xs.length + 1) / 2)) l).2).1 ((stab ans (xs.drop ((xs.length + 1) / 2)) (stab ans (xs.take ((xs.length + 1) / 2)) l).2).2 ++ [(x, y)])
        rw [l1, l2, List.length_append, List.length_singleton] at q
        omega
end
end Mir

/-! Sorting by a key: what stands in the stable order. -/
namespace Mir
section
variable {α : Type}
/-- in order by a key -/
abbrev Srt (key : α → Int) (xs : List α) : Prop := xs.Pairwise fun a b => key a ≤ key b
/-- those of a key -/
def ofK (key : α → Int) (k : Int) (xs : List α) : List α := xs.filter fun x => decide (key x = k)
theorem ofK_nil (key : α → Int) (k : Int) : ofK key k ([] : List α) = [] := rfl
theorem ofK_cons (key : α → Int) (k : Int) (x : α) (xs : List α) : ofK key k (x :: xs) = if key x = k then x :: ofK key k xs else ofK key k xs := by
  unfold ofK
  rw [List.filter_cons]
  by_cases h : key x = k
  · simp [h]
  · simp [h]
theorem ofK_append (key : α → Int) (k : Int) (xs ys : List α) : ofK key k (xs ++ ys) = ofK key k xs ++ ofK key k ys := by unfold ofK; exact List.filter_append _ _
theorem ofK_none {key : α → Int} {k : Int} {xs : List α} (h : ∀ x ∈ xs, key x ≠ k) : ofK key k xs = [] := by
  unfold ofK
  rw [List.filter_eq_nil_iff]
  intro x hx
  simp [h x hx]
theorem sort_uniq (key : α → Int) : ∀ (xs ys : List α), Srt key xs → Srt key ys → (∀ k, ofK key k xs = ofK key k ys) → xs = ys
  | [], [], _, _, _ => rfl
  | [], y :: ys, _, _, h => by
    have e := h (key y)
    rw [ofK_nil, ofK_cons, if_pos rfl] at e
    cases e
  | x :: xs, [], _, _, h => by
    have e := h (key x)
    rw [ofK_nil, ofK_cons, if_pos rfl] at e
    cases e
  | x :: xs, y :: ys, hx, hy, h => by
    obtain ⟨x1, x2⟩ := List.pairwise_cons.mp hx
    obtain ⟨y1, y2⟩ := List.pairwise_cons.mp hy
    have hk : key x = key y := by
      rcases Int.lt_trichotomy (key x) (key y) with c | c | c
      · have e := h (key x)
        rw [ofK_cons, if_pos rfl, ofK_none (xs := y :: ys) (fun z hz => by
          rcases List.mem_cons.mp hz with q | q
          · rw [q]; omega
          · have := y1 z q; omega)] at e
        cases e
      · exact c
      · have e := h (key y)
        rw [ofK_cons key _ y, if_pos rfl, ofK_none (xs := x :: xs) (fun z hz => by
          rcases List.mem_cons.mp hz with q | q
          · rw [q]; omega
          · have := x1 z q; omega)] at e
        cases e
    have e := h (key x)
    rw [ofK_cons, ofK_cons, if_pos rfl, if_pos hk.symm] at e
    injection e with e1 e2
    subst e1
    rw [sort_uniq key xs ys x2 y2 fun k => ?_]
    have e := h k
    rw [ofK_cons, ofK_cons] at e
    by_cases q : key x = k
    · rw [if_pos q, if_pos q] at e
      injection e
    · rw [if_neg q, if_neg q] at e
      exact e
variable {ans : Ans α} {key : α → Int}
theorem mrg_srt (A : KeyA ans key) : ∀ (xs ys : List α) (l : List (α × α)), Srt key xs → Srt key ys → Srt key (mrg ans xs ys l).1 ∧ ∀ k, ofK key k (mrg ans xs ys l).1 = ofK key k xs ++ ofK key k ys
  | [], ys, l, hx, hy => by rw [mrg_nil]; exact ⟨hy, fun k => rfl⟩
  | x :: xs, [], l, hx, hy => by rw [mrg_nil2]; exact ⟨hx, fun k => (List.append_nil _).symm⟩
  | x :: xs, y :: ys, l, hx, hy => by
    obtain ⟨x1, x2⟩ := List.pairwise_cons.mp hx
    obtain ⟨y1, y2⟩ := List.pairwise_cons.mp hy
    rw [mrg_cons]
    split
    · rename_i q
      have q := (A.le _ _ _).mp q
      obtain ⟨i1, i2⟩ := mrg_srt A xs (y :: ys) (l ++ [(x, y)]) x2 hy
      refine ⟨List.pairwise_cons.mpr ⟨fun z hz => ?_, i1⟩, fun k => ?_⟩
      · rcases mrg_mem ans _ _ _ z hz with m | m
        · exact x1 z m
        · rcases List.mem_cons.mp m with m | m
          · rw [m]; exact q
          · have := y1 z m; omega
      · show ofK key k (x :: _) = _
        rw [ofK_cons, ofK_cons, i2 k]
        split <;> rfl
    · rename_i q
      have q : key y < key x := by
        have := A.le l x y
        omega
      obtain ⟨i1, i2⟩ := mrg_srt A (x :: xs) ys (l ++ [(x, y)]) hx y2
      refine ⟨List.pairwise_cons.mpr ⟨fun z hz => ?_, i1⟩, fun k => ?_⟩
      · rcases mrg_mem ans _ _ _ z hz with m | m
        · rcases List.mem_cons.mp m with m | m
          · rw [m]; omega
          · have := x1 z m; omega
        · exact y1 z m
      · show ofK key k (y :: _) = _
        rw [ofK_cons, i2 k, ofK_cons key k y ys]
        split
        · rename_i e
          rw [ofK_none (xs := x :: xs) (fun z hz => by
            rcases List.mem_cons.mp hz with m | m
            · rw [m]; omega
            · have := x1 z m; omega)]
          rfl
        · rfl
termination_by xs ys => xs.length + ys.length
theorem srt_append {xs ys : List α} {x y : α} (hx : Srt key xs) (hy : Srt key ys) (ex : xs.getLast? = some x) (ey : ys.head? = some y) (h : key x ≤ key y) : Srt key (xs ++ ys) := by
  refine List.pairwise_append.mpr ⟨hx, hy, fun a ha b hb => ?_⟩
  obtain ⟨r, er⟩ := List.getLast?_eq_some_iff.mp ex
  have h1 : key a ≤ key x := by
    rw [er] at ha hx
    rcases List.mem_append.mp ha with m | m
    · exact (List.pairwise_append.mp hx).2.2 a m x (List.mem_singleton.mpr rfl)
    · rw [List.mem_singleton.mp m]; omega
  have h2 : key y ≤ key b := by
    cases ys with
    | nil => cases hb
    | cons z zs =>
      have : z = y := Option.some.inj ey
      subst this
      rcases List.mem_cons.mp hb with m | m
      · rw [m]; omega
      · exact (List.pairwise_cons.mp hy).1 b m
  omega
theorem stab_srt (A : KeyA ans key) (n : Nat) : ∀ (xs : List α) (l : List (α × α)), xs.length ≤ n → Srt key (stab ans xs l).1 ∧ ∀ k, ofK key k (stab ans xs l).1 = ofK key k xs := by
  induction n with
  | zero =>
    intro xs l h
    have e : xs = [] := List.length_eq_zero_iff.mp (by omega)
    subst e
    rw [stab_small ans l (by simp)]
    exact ⟨List.Pairwise.nil, fun k => rfl⟩
  | succ n ih =>
    intro xs l h
    by_cases h2 : xs.length < 2
    · rw [stab_small ans l h2]
      refine ⟨?_, fun k => rfl⟩
      cases xs with
      | nil => exact List.Pairwise.nil
      | cons x r =>
        cases r with
        | nil => exact List.pairwise_singleton _ _
        | cons y s => exact absurd h2 (by simp)
    · have t1 : (xs.take ((xs.length + 1) / 2)).length = (xs.length + 1) / 2 := by rw [List.length_take]; omega
      have t2 : (xs.drop ((xs.length + 1) / 2)).length = xs.length - (xs.length + 1) / 2 := List.length_drop
      obtain ⟨i1, i2⟩ := ih (xs.take ((xs.length + 1) / 2)) l (by omega)
      obtain ⟨j1, j2⟩ := ih (xs.drop ((xs.length + 1) / 2)) (stab ans (xs.take ((xs.length + 1) / 2)) l).2 (by omega)
      have l1 := stab_len ans n (xs.take ((xs.length + 1) / 2)) l (by omega)
      have l2 := stab_len ans n (xs.drop ((xs.length + 1) / 2)) (stab ans (xs.take ((xs.length + 1) / 2)) l).2 (by omega)
      have both : ∀ k, ofK key k (xs.take ((xs.length + 1) / 2)) ++ ofK key k (xs.drop ((xs.length + 1) / 2)) = ofK key k xs := fun k => by
        rw [← ofK_append, List.take_append_drop]
      obtain ⟨x, ex⟩ : ∃ x, (stab ans (xs.take ((xs.length + 1) / 2)) l).1.getLast? = some x := by
        rw [List.getLast?_eq_getElem?]
        exact ⟨_, List.getElem?_eq_getElem (by omega)⟩
      obtain ⟨y, ey⟩ : ∃ y, (stab ans (xs.drop ((xs.length + 1) / 2)) (stab ans (xs.take ((xs.length + 1) / 2)) l).2).1.head? = some y := by
        rw [List.head?_eq_getElem?]
        exact ⟨_, List.getElem?_eq_getElem (by omega)⟩
      rw [stab_step ans l h2 rfl rfl ex ey]
      split
      · rename_i q
        refine ⟨srt_append i1 j1 ex ey ((A.le _ _ _).mp q), fun k => ?_⟩
        show ofK key k (_ ++ _) = _
        rw [ofK_append, i2, j2, both]
      · obtain ⟨m1, m2⟩ := mrg_srt A _ _ ((stab ans (xs.drop ((xs.length + 1) / 2)) (stab ans (xs.take ((xs.length + 1) / 2)) l).2).2 ++ [(x, y)]) i1 j1
        exact ⟨m1, fun k => by rw [m2, i2, j2, both]⟩
/-! ### insertion -/
theorem plc_spec (key : α → Int) (made : List α) (e : α) : ∀ n, n ≤ made.length → (∀ j z, plc key made e n ≤ j → j < n → made[j]? = some z → key e < key z) ∧ (0 < plc key made e n → ∃ z, made[plc key made e n - 1]? = some z ∧ key z ≤ key e)
  | 0, _ => ⟨fun j z _ h => absurd h (Nat.not_lt_zero j), fun h => by rw [plc_zero] at h; omega⟩
  | n + 1, h => by
    obtain ⟨i1, i2⟩ := plc_spec key made e n (by omega)
    obtain ⟨z, hz⟩ : ∃ z, made[n]? = some z := ⟨_, List.getElem?_eq_getElem (by omega)⟩
    by_cases q : key e < key z
    · rw [plc_lt hz q]
      refine ⟨fun j z' h1 h2 h3 => ?_, i2⟩
      by_cases hj : j < n
      · exact i1 j z' h1 hj h3
      · have : j = n := by omega
        subst this
        rw [hz] at h3
        cases h3
        exact q
    · rw [plc_ge hz q]
      exact ⟨fun j z' h1 h2 _ => by omega, fun _ => ⟨z, hz, by omega⟩⟩
theorem srt_get {xs : List α} (h : Srt key xs) {i j : Nat} {x y : α} (hij : i ≤ j) (ex : xs[i]? = some x) (ey : xs[j]? = some y) : key x ≤ key y := by
  obtain ⟨h1, e1⟩ := List.getElem?_eq_some_iff.mp ex
  obtain ⟨h2, e2⟩ := List.getElem?_eq_some_iff.mp ey
  by_cases q : i = j
  · subst q
    rw [e1] at e2
    rw [e2]
    omega
  · have := List.pairwise_iff_getElem.mp h i j h1 h2 (by omega)
    rw [e1, e2] at this
    exact this
theorem ins1_srt {made : List α} (e : α) (h : Srt key made) : Srt key (ins1 key made e) ∧ ∀ k, ofK key k (ins1 key made e) = ofK key k made ++ ofK key k [e] := by
  obtain ⟨s1, s2⟩ := plc_spec key made e made.length (Nat.le_refl _)
  have hp := plc_le key made e made.length
  obtain ⟨p, ep⟩ : ∃ p, p = plc key made e made.length := ⟨_, rfl⟩
  rw [← ep] at s1 s2 hp
  have lo : ∀ z ∈ made.take p, key z ≤ key e := fun z hz => by
    obtain ⟨i, hi⟩ := List.mem_iff_getElem?.mp hz
    have hip : i < p := by
      have := (List.getElem?_eq_some_iff.mp hi).1
      rw [List.length_take] at this
      omega
    rw [List.getElem?_take_of_lt hip] at hi
    obtain ⟨y, hy, hy2⟩ := s2 (by omega)
    have := srt_get h (show i ≤ p - 1 by omega) hi hy
    omega
  have hi : ∀ z ∈ made.drop p, key e < key z := fun z hz => by
    obtain ⟨i, hi⟩ := List.mem_iff_getElem?.mp hz
    rw [List.getElem?_drop] at hi
    exact s1 (p + i) z (by omega) (List.getElem?_eq_some_iff.mp hi).1 hi
  have ht : Srt key (made.take p) := h.sublist (List.take_sublist _ _)
  have hd : Srt key (made.drop p) := h.sublist (List.drop_sublist _ _)
  have hc : ∀ a ∈ made.take p, ∀ b ∈ made.drop p, key a ≤ key b := fun a ha b hb => by
    have := lo a ha
    have := hi b hb
    omega
  unfold ins1
  rw [← ep]
  refine ⟨?_, fun k => ?_⟩
  · refine List.pairwise_append.mpr ⟨List.pairwise_append.mpr ⟨ht, List.pairwise_singleton _ _, fun a ha b hb => ?_⟩, hd, fun a ha b hb => ?_⟩
    · rw [List.mem_singleton.mp hb]
      exact lo a ha
    · rcases List.mem_append.mp ha with m | m
      · exact hc a m b hb
      · rw [List.mem_singleton.mp m]
        have := hi b hb
        omega
  · rw [ofK_append, ofK_append]
    have e1 : ofK key k made = ofK key k (made.take p) ++ ofK key k (made.drop p) := by rw [← ofK_append, List.take_append_drop]
    rw [e1, List.append_assoc, List.append_assoc]
    congr 1
    by_cases q : key e = k
    · rw [ofK_none (xs := made.drop p) fun z hz => by have := hi z hz; omega]
      simp
    · rw [ofK_none (xs := [e]) fun z hz => by rw [List.mem_singleton.mp hz]; exact q]
      simp
theorem isort_srt (key : α → Int) (xs : List α) : Srt key (isort key xs) ∧ ∀ k, ofK key k (isort key xs) = ofK key k xs := by
  have : ∀ (ys acc : List α), Srt key acc → Srt key (ys.foldl (ins1 key) acc) ∧ ∀ k, ofK key k (ys.foldl (ins1 key) acc) = ofK key k acc ++ ofK key k ys := by
    intro ys
    induction ys with
    | nil => intro acc h; exact ⟨h, fun k => (List.append_nil _).symm⟩
    | cons y ys ih =>
      intro acc h
      obtain ⟨i1, i2⟩ := ins1_srt y h
      obtain ⟨j1, j2⟩ := ih _ i1
      rw [List.foldl_cons]
      refine ⟨j1, fun k => ?_⟩
      rw [j2, i2, List.append_assoc, ← ofK_append]
      rfl
  exact this xs [] List.Pairwise.nil
theorem isort_id {xs : List α} (h : Srt key xs) : isort key xs = xs := sort_uniq key _ _ (isort_srt key xs).1 h (isort_srt key xs).2
theorem isort_eq {xs ys : List α} (h : Srt key ys) (hk : ∀ k, ofK key k ys = ofK key k xs) : ys = isort key xs := sort_uniq key _ _ h (isort_srt key xs).1 fun k => by rw [hk, (isort_srt key xs).2]
/-- STABLE tells the stable order -/
theorem stab_isort (A : KeyA ans key) (xs : List α) (l : List (α × α)) : (stab ans xs l).1 = isort key xs := by
  obtain ⟨h1, h2⟩ := stab_srt A _ xs l (Nat.le_refl _)
  exact isort_eq h1 h2
/-- of a row in order: n - 1 questions at most -/
theorem stab_cnt_srt (A : KeyA ans key) (n : Nat) : ∀ (xs : List α) (l : List (α × α)), xs.length ≤ n → Srt key xs → (stab ans xs l).2.length ≤ l.length + (xs.length - 1) := by
  induction n with
  | zero => intro xs l h _; rw [stab_small ans l (by omega)]; exact Nat.le_add_right _ _
  | succ n ih =>
    intro xs l h hs
    by_cases h2 : xs.length < 2
    · rw [stab_small ans l h2]; exact Nat.le_add_right _ _
    · have t1 : (xs.take ((xs.length + 1) / 2)).length = (xs.length + 1) / 2 := by rw [List.length_take]; omega
      have t2 : (xs.drop ((xs.length + 1) / 2)).length = xs.length - (xs.length + 1) / 2 := List.length_drop
      have hs1 : Srt key (xs.take ((xs.length + 1) / 2)) := hs.sublist (List.take_sublist _ _)
      have hs2 : Srt key (xs.drop ((xs.length + 1) / 2)) := hs.sublist (List.drop_sublist _ _)
      have i1 := ih (xs.take ((xs.length + 1) / 2)) l (by omega) hs1
      have i2 := ih (xs.drop ((xs.length + 1) / 2)) (stab ans (xs.take ((xs.length + 1) / 2)) l).2 (by omega) hs2
      have e1 : (stab ans (xs.take ((xs.length + 1) / 2)) l).1 = xs.take ((xs.length + 1) / 2) := by rw [stab_isort A, isort_id hs1]
      have e2 : (stab ans (xs.drop ((xs.length + 1) / 2)) (stab ans (xs.take ((xs.length + 1) / 2)) l).2).1 = xs.drop ((xs.length + 1) / 2) := by rw [stab_isort A, isort_id hs2]
      obtain ⟨x, ex⟩ : ∃ x, (xs.take ((xs.length + 1) / 2)).getLast? = some x := by
        rw [List.getLast?_eq_getElem?]
        exact ⟨_, List.getElem?_eq_getElem (by omega)⟩
      obtain ⟨y, ey⟩ : ∃ y, (xs.drop ((xs.length + 1) / 2)).head? = some y := by
        rw [List.head?_eq_getElem?]
        exact ⟨_, List.getElem?_eq_getElem (by omega)⟩
      have hxy : key x ≤ key y := by
        have mx : x ∈ xs.take ((xs.length + 1) / 2) := List.mem_of_getLast? ex
        have my : y ∈ xs.drop ((xs.length + 1) / 2) := by
          rw [List.head?_eq_getElem?] at ey
          exact List.mem_of_getElem? ey
        have hs' := hs
        rw [← List.take_append_drop ((xs.length + 1) / 2) xs] at hs'
        exact (List.pairwise_append.mp hs').2.2 x mx y my
      rw [stab_step ans l h2 rfl rfl (by rw [e1]; exact ex) (by rw [e2]; exact ey), if_pos ((A.le _ _ _).mpr hxy), List.length_append, List.length_singleton]
      rw [t1] at i1
      rw [t2] at i2
      omega
/-! ### what is asked of -/
/-- the log grew by questions of P -/
def Grew (P : α × α → Prop) (l l' : List (α × α)) : Prop := ∃ m, l' = l ++ m ∧ ∀ z ∈ m, P z
theorem Grew.refl (P : α × α → Prop) (l : List (α × α)) : Grew P l l := ⟨[], (List.append_nil _).symm, fun z h => by cases h⟩
theorem Grew.trans {P : α × α → Prop} {l l1 l2 : List (α × α)} (a : Grew P l l1) (b : Grew P l1 l2) : Grew P l l2 := by
  obtain ⟨m, e, h⟩ := a
  obtain ⟨n, f, g⟩ := b
  refine ⟨m ++ n, by rw [f, e, List.append_assoc], fun z hz => ?_⟩
  rcases List.mem_append.mp hz with q | q
  · exact h z q
  · exact g z q
theorem Grew.mono {P Q : α × α → Prop} {l l' : List (α × α)} (a : Grew P l l') (h : ∀ z, P z → Q z) : Grew Q l l' := by
  obtain ⟨m, e, g⟩ := a
  exact ⟨m, e, fun z hz => h z (g z hz)⟩
theorem Grew.one {P : α × α → Prop} {l : List (α × α)} {z : α × α} (h : P z) : Grew P l (l ++ [z]) := ⟨[z], rfl, fun y hy => by rw [List.mem_singleton.mp hy]; exact h⟩
theorem Grew.of_nil {P : α × α → Prop} {l : List (α × α)} (a : Grew P [] l) : ∀ z ∈ l, P z := by
  obtain ⟨m, e, h⟩ := a
  rw [e]
  simpa using h
theorem mrg_grew (ans : Ans α) : ∀ (xs ys : List α) (l : List (α × α)), Grew (fun z => z.1 ∈ xs ∧ z.2 ∈ ys) l (mrg ans xs ys l).2
  | [], ys, l => by rw [mrg_nil]; exact .refl _ _
  | x :: xs, [], l => by rw [mrg_nil2]; exact .refl _ _
  | x :: xs, y :: ys, l => by
    have h1 := mrg_grew ans xs (y :: ys) (l ++ [(x, y)])
    have h2 := mrg_grew ans (x :: xs) ys (l ++ [(x, y)])
    rw [mrg_cons]
    split
    · exact (Grew.one ⟨List.mem_cons_self, List.mem_cons_self⟩).trans (h1.mono fun z h => ⟨List.mem_cons_of_mem _ h.1, h.2⟩)
    · exact (Grew.one ⟨List.mem_cons_self, List.mem_cons_self⟩).trans (h2.mono fun z h => ⟨h.1, List.mem_cons_of_mem _ h.2⟩)
termination_by xs ys => xs.length + ys.length
theorem stab_grew (ans : Ans α) (n : Nat) : ∀ (xs : List α) (l : List (α × α)), xs.length ≤ n → Grew (fun z => z.1 ∈ xs ∧ z.2 ∈ xs) l (stab ans xs l).2 := by
  induction n with
  | zero => intro xs l h; rw [stab_small ans l (by omega)]; exact .refl _ _
  | succ n ih =>
    intro xs l h
    by_cases h2 : xs.length < 2
    · rw [stab_small ans l h2]; exact .refl _ _
    · have t1 : (xs.take ((xs.length + 1) / 2)).length = (xs.length + 1) / 2 := by rw [List.length_take]; omega
      have t2 : (xs.drop ((xs.length + 1) / 2)).length = xs.length - (xs.length + 1) / 2 := List.length_drop
      have i1 := ih (xs.take ((xs.length + 1) / 2)) l (by omega)
      have i2 := ih (xs.drop ((xs.length + 1) / 2)) (stab ans (xs.take ((xs.length + 1) / 2)) l).2 (by omega)
      have l1 := stab_len ans n (xs.take ((xs.length + 1) / 2)) l (by omega)
      have l2 := stab_len ans n (xs.drop ((xs.length + 1) / 2)) (stab ans (xs.take ((xs.length + 1) / 2)) l).2 (by omega)
      have m1 : ∀ z, z ∈ (stab ans (xs.take ((xs.length + 1) / 2)) l).1 → z ∈ xs := fun z hz => List.mem_of_mem_take (stab_mem ans _ _ _ z (Nat.le_refl _) hz)
      have m2 : ∀ z, z ∈ (stab ans (xs.drop ((xs.length + 1) / 2)) (stab ans (xs.take ((xs.length + 1) / 2)) l).2).1 → z ∈ xs := fun z hz => List.mem_of_mem_drop (stab_mem ans _ _ _ z (Nat.le_refl _) hz)
      have g12 : Grew (fun z => z.1 ∈ xs ∧ z.2 ∈ xs) l (stab ans (xs.drop ((xs.length + 1) / 2)) (stab ans (xs.take ((xs.length + 1) / 2)) l).2).2 :=
        (i1.mono fun z h => ⟨List.mem_of_mem_take h.1, List.mem_of_mem_take h.2⟩).trans (i2.mono fun z h => ⟨List.mem_of_mem_drop h.1, List.mem_of_mem_drop h.2⟩)
      obtain ⟨x, ex⟩ : ∃ x, (stab ans (xs.take ((xs.length + 1) / 2)) l).1.getLast? = some x := by
        rw [List.getLast?_eq_getElem?]
        exact ⟨_, List.getElem?_eq_getElem (by omega)⟩
      obtain ⟨y, ey⟩ : ∃ y, (stab ans (xs.drop ((xs.length + 1) / 2)) (stab ans (xs.take ((xs.length + 1) / 2)) l).2).1.head? = some y := by
        rw [List.head?_eq_getElem?]
        exact ⟨_, List.getElem?_eq_getElem (by omega)⟩
      have g3 := g12.trans (Grew.one (z := (x, y)) ⟨m1 x (List.mem_of_getLast? ex), m2 y (by rw [List.head?_eq_getElem?] at ey; exact List.mem_of_getElem? ey)⟩)
      rw [stab_step ans l h2 rfl rfl ex ey]
      split
      · exact g3
      · exact g3.trans ((mrg_grew ans _ _ _).mono fun z h => ⟨m1 _ h.1, m2 _ h.2⟩)
end
end Mir
namespace Mir
section
variable {α β : Type}
theorem srt_of_keys {key : α → Int} {xs ys : List α} (h : Srt key xs) (e : xs.map key = ys.map key) : Srt key ys := by
  have h1 : (xs.map key).Pairwise (· ≤ ·) := List.pairwise_map.mpr h
  rw [e] at h1
  exact List.pairwise_map.mp h1
theorem srt_of_map {c : α → β} {k : β → Int} {xs ys : List α} (h : Srt (fun x => k (c x)) xs) (e : xs.map c = ys.map c) : Srt (fun x => k (c x)) ys := by
  refine srt_of_keys h ?_
  have e2 := congrArg (List.map k) e
  rw [List.map_map, List.map_map] at e2
  exact e2
end
end Mir
namespace Mir
section
variable {α : Type}
theorem Srt.congr {k1 k2 : α → Int} {xs : List α} (h : Srt k1 xs) (e : ∀ x ∈ xs, k1 x = k2 x) : Srt k2 xs := by
  refine srt_of_keys (key := k2) (xs := xs) ?_ rfl
  have h1 : (xs.map k1).Pairwise (· ≤ ·) := List.pairwise_map.mpr h
  rw [List.map_congr_left e] at h1
  exact List.pairwise_map.mp h1
end
end Mir

/-! heaps: the mathematics of push, sunk, pop, heaped -/
namespace Mir
section
variable {α : Type} {key : α → Int}
theorem set_perm : ∀ (xs : List α) (i : Nat) (x y : α), xs[i]? = some x → (x :: xs.set i y).Perm (y :: xs)
  | [], i, x, y, h => by simp at h
  | z :: xs, 0, x, y, h => by
    simp at h
    subst h
    exact List.Perm.swap _ _ _
  | z :: xs, i + 1, x, y, h => by
    have ih := set_perm xs i x y (by simpa using h)
    rw [List.set_cons_succ]
    exact ((List.Perm.swap z x _).trans (ih.cons z)).trans (List.Perm.swap y z _)
theorem swap_perm {xs : List α} {i j : Nat} {x y : α} (hi : xs[i]? = some x) (hj : xs[j]? = some y) (n : i ≠ j) : ((xs.set i y).set j x).Perm xs := by
  have h1 := set_perm xs i x y hi
  have h2 := set_perm (xs.set i y) j y x (by rw [List.getElem?_set_ne n]; exact hj)
  exact (h2.trans h1).cons_inv
theorem swap_get {xs : List α} {i j : Nat} {x y : α} (hi : xs[i]? = some x) (hj : xs[j]? = some y) (n : i ≠ j) (k : Nat) :
    ((xs.set i y).set j x)[k]? = if k = j then some x else if k = i then some y else xs[k]? := by
  have li := (List.getElem?_eq_some_iff.mp hi).1
  have lj := (List.getElem?_eq_some_iff.mp hj).1
  by_cases e1 : k = j
  · rw [if_pos e1, e1, List.getElem?_set_self (by rw [List.length_set]; exact lj)]
  · rw [if_neg e1, List.getElem?_set_ne (fun z => e1 z.symm)]
    by_cases e2 : k = i
    · rw [if_pos e2, e2, List.getElem?_set_self li]
    · rw [if_neg e2, List.getElem?_set_ne (fun z => e2 z.symm)]
/-- no element stands ahead of the one at half its place, from place s on -/
def HeapFrom (key : α → Int) (xs : List α) (s : Nat) : Prop := ∀ (k : Nat) (x y : α), 1 ≤ k → s ≤ (k - 1) / 2 → xs[(k - 1) / 2]? = some x → xs[k]? = some y → key x ≤ key y
def HeapOk (key : α → Int) (xs : List α) : Prop := HeapFrom key xs 0
/-! ### down -/
structure Down (key : α → Int) (xs : List α) (s p : Nat) : Prop where
  le : s ≤ p
  off : ∀ (k : Nat) (x y : α), 1 ≤ k → s ≤ (k - 1) / 2 → (k - 1) / 2 ≠ p → xs[(k - 1) / 2]? = some x → xs[k]? = some y → key x ≤ key y
  up : ∀ (k : Nat) (x y : α), 1 ≤ k → (k - 1) / 2 = p → 1 ≤ p → s ≤ (p - 1) / 2 → xs[(p - 1) / 2]? = some x → xs[k]? = some y → key x ≤ key y
theorem Down.start {xs : List α} {s : Nat} (h : HeapFrom key xs (s + 1)) : Down key xs s s :=
  ⟨Nat.le_refl _, fun k x y h1 h2 h3 => h k x y h1 (by omega), fun k x y h1 h2 h3 h4 => by omega⟩
theorem Down.step {xs : List α} {s p b : Nat} {x y : α} (h : Down key xs s p) (hb : b = 2 * p + 1 ∨ b = 2 * p + 2) (hx : xs[p]? = some x) (hy : xs[b]? = some y) (hlt : ¬ key x ≤ key y)
    (hm : ∀ (k : Nat) (z : α), (k = 2 * p + 1 ∨ k = 2 * p + 2) → xs[k]? = some z → key y ≤ key z) : Down key ((xs.set p y).set b x) s b := by
  have pb : p ≠ b := by omega
  have hp : (b - 1) / 2 = p := by omega
  have g := swap_get hx hy pb
  have hle := h.le
  refine ⟨by omega, fun k u v h1 h2 h3 hu hv => ?_, fun k u v h1 h2 h3 h4 hu hv => ?_⟩
  · rw [g] at hu hv
    rw [if_neg (by omega : ¬ (k - 1) / 2 = b)] at hu
    by_cases e1 : (k - 1) / 2 = p
    · rw [if_pos e1] at hu
      cases hu
      by_cases e2 : k = b
      · rw [if_pos e2] at hv
        cases hv
        omega
      · rw [if_neg e2, if_neg (by omega : ¬ k = p)] at hv
        exact hm k v (by omega) hv
    · rw [if_neg e1] at hu
      rw [if_neg (by omega : ¬ k = b)] at hv
      by_cases e3 : k = p
      · rw [if_pos e3] at hv
        cases hv
        rw [e3] at hu h2 h1
        exact h.up b u y (by omega) hp h1 h2 hu hy
      · rw [if_neg e3] at hv
        exact h.off k u v h1 h2 e1 hu hv
  · rw [g] at hu hv
    rw [if_neg (by omega : ¬ (b - 1) / 2 = b), if_pos hp] at hu
    cases hu
    rw [if_neg (by omega : ¬ k = b), if_neg (by omega : ¬ k = p)] at hv
    exact h.off k y v h1 (by omega) (by omega) (by rw [h2]; exact hy) hv
theorem Down.none {xs : List α} {s p : Nat} (h : Down key xs s p) (hn : ¬ 2 * p + 1 < xs.length) : HeapFrom key xs s := fun k x y h1 h2 hx hy => by
  by_cases e : (k - 1) / 2 = p
  · have := (List.getElem?_eq_some_iff.mp hy).1
    omega
  · exact h.off k x y h1 h2 e hx hy
theorem Down.stop {xs : List α} {s p : Nat} {x y : α} (h : Down key xs s p) (hx : xs[p]? = some x) (hle : key x ≤ key y) (hm : ∀ (k : Nat) (z : α), (k = 2 * p + 1 ∨ k = 2 * p + 2) → xs[k]? = some z → key y ≤ key z) : HeapFrom key xs s := fun k u v h1 h2 hu hv => by
  by_cases e : (k - 1) / 2 = p
  · rw [e, hx] at hu
    cases hu
    have := hm k v (by omega) hv
    omega
  · exact h.off k u v h1 h2 e hu hv
/-! ### up -/
structure Up (key : α → Int) (xs : List α) (p : Nat) : Prop where
  off : ∀ (k : Nat) (x y : α), 1 ≤ k → k ≠ p → xs[(k - 1) / 2]? = some x → xs[k]? = some y → key x ≤ key y
  up : ∀ (k : Nat) (x y : α), 1 ≤ k → (k - 1) / 2 = p → 1 ≤ p → xs[(p - 1) / 2]? = some x → xs[k]? = some y → key x ≤ key y
theorem Up.start {xs : List α} {e : α} (h : HeapOk key xs) : Up key (xs ++ [e]) xs.length := by
  refine ⟨fun k x y h1 h2 hx hy => ?_, fun k x y h1 h2 h3 hx hy => ?_⟩
  · have hl := (List.getElem?_eq_some_iff.mp hy).1
    simp only [List.length_append, List.length_singleton] at hl
    rw [List.getElem?_append_left (by omega)] at hx hy
    exact h k x y h1 (Nat.zero_le _) hx hy
  · have hl := (List.getElem?_eq_some_iff.mp hy).1
    simp only [List.length_append, List.length_singleton] at hl
    omega
theorem Up.step {xs : List α} {p : Nat} {x y : α} (h : Up key xs p) (h0 : 1 ≤ p) (hx : xs[(p - 1) / 2]? = some x) (hy : xs[p]? = some y) (hlt : ¬ key x ≤ key y) : Up key ((xs.set ((p - 1) / 2) y).set p x) ((p - 1) / 2) := by
  have n : (p - 1) / 2 ≠ p := by omega
  have g := swap_get hx hy n
  refine ⟨fun k u v h1 h2 hu hv => ?_, fun k u v h1 h2 h3 hu hv => ?_⟩
  · rw [g] at hu hv
    by_cases e1 : k = p
    · rw [if_pos e1] at hv
      cases hv
      rw [if_neg (by omega : ¬ (k - 1) / 2 = p), if_pos (by rw [e1])] at hu
      cases hu
      omega
    · rw [if_neg e1, if_neg h2] at hv
      by_cases e2 : (k - 1) / 2 = p
      · rw [if_pos e2] at hu
        cases hu
        exact h.up k x v h1 e2 h0 hx hv
      · rw [if_neg e2] at hu
        by_cases e3 : (k - 1) / 2 = (p - 1) / 2
        · rw [if_pos e3] at hu
          cases hu
          have := h.off k x v h1 e1 (by rw [e3]; exact hx) hv
          omega
        · rw [if_neg e3] at hu
          exact h.off k u v h1 e1 hu hv
  · rw [g] at hu hv
    rw [if_neg (by omega : ¬ ((p - 1) / 2 - 1) / 2 = p), if_neg (by omega : ¬ ((p - 1) / 2 - 1) / 2 = (p - 1) / 2)] at hu
    have h5 := h.off ((p - 1) / 2) u x h3 n hu hx
    by_cases e1 : k = p
    · rw [if_pos e1] at hv
      cases hv
      exact h5
    · rw [if_neg e1, if_neg (by omega : ¬ k = (p - 1) / 2)] at hv
      have h6 := h.off k x v h1 e1 (by rw [h2]; exact hx) hv
      omega
theorem Up.zero {xs : List α} (h : Up key xs 0) : HeapOk key xs := fun k x y h1 _ hx hy => h.off k x y h1 (by omega) hx hy
theorem Up.stop {xs : List α} {p : Nat} {x y : α} (h : Up key xs p) (hx : xs[(p - 1) / 2]? = some x) (hy : xs[p]? = some y) (hle : key x ≤ key y) : HeapOk key xs := fun k u v h1 _ hu hv => by
  by_cases e : k = p
  · rw [e] at hu hv
    rw [hx] at hu
    rw [hy] at hv
    cases hu
    cases hv
    exact hle
  · exact h.off k u v h1 e hu hv
/-! ### pop -/
theorem pop_perm {h0 z : α} {t : List α} (hz : (h0 :: t).getLast? = some z) (hne : t ≠ []) : (((h0 :: t).dropLast).set 0 z).Perm t := by
  cases t with
  | nil => exact absurd rfl hne
  | cons a t =>
    rw [List.dropLast_cons_of_ne_nil (by simp), List.set_cons_zero]
    rw [List.getLast?_cons_cons] at hz
    have h1 : (a :: t).dropLast ++ [z] = a :: t := by
      obtain ⟨r, er⟩ := List.getLast?_eq_some_iff.mp hz
      rw [er]
      simp
    have h2 : (z :: (a :: t).dropLast).Perm ((a :: t).dropLast ++ [z]) := (List.perm_append_comm (l₁ := [z]) (l₂ := (a :: t).dropLast))
    rw [h1] at h2
    exact h2
theorem pop_heap {xs : List α} {z : α} (h : HeapOk key xs) : HeapFrom key (xs.dropLast.set 0 z) 1 := fun k x y h1 h2 hx hy => by
  rw [List.getElem?_set_ne (by omega)] at hx hy
  have l1 := (List.getElem?_eq_some_iff.mp hx).1
  have l2 := (List.getElem?_eq_some_iff.mp hy).1
  rw [List.length_dropLast] at l1 l2
  rw [List.getElem?_dropLast, if_pos (by omega)] at hx hy
  exact h k x y h1 (Nat.zero_le _) hx hy
theorem heap_root {xs : List α} (h : HeapOk key xs) {r : α} (hr : xs[0]? = some r) : ∀ (k : Nat) (y : α), xs[k]? = some y → key r ≤ key y := by
  intro k
  induction k using Nat.strongRecOn with
  | _ k ih =>
    intro y hy
    by_cases h0 : k = 0
    · rw [h0, hr] at hy
      cases hy
      exact Int.le_refl _
    · obtain ⟨x, hx⟩ : ∃ x, xs[(k - 1) / 2]? = some x := by
        have := (List.getElem?_eq_some_iff.mp hy).1
        exact ⟨_, List.getElem?_eq_getElem (by omega)⟩
      have h1 := ih ((k - 1) / 2) (by omega) x hx
      have h2 := h k x y (by omega) (Nat.zero_le _) hx hy
      omega
theorem heap_nil {s : Nat} (xs : List α) (h : ¬ 2 * s + 1 < xs.length) : HeapFrom key xs s := fun k x y h1 h2 hx hy => by
  have := (List.getElem?_eq_some_iff.mp hy).1
  omega
theorem HeapFrom.ge {xs : List α} {s : Nat} (h : HeapFrom key xs 0) : HeapFrom key xs s := fun k x y h1 _ => h k x y h1 (Nat.zero_le _)
end
/-! ### counts -/
theorem log2_half {n m : Nat} (hm : 1 ≤ m) (h : 2 * m ≤ n) : Nat.log2 (n / (2 * m)) + 1 = Nat.log2 (n / m) := by
  have e : n / (2 * m) = n / m / 2 := by rw [Nat.mul_comm, Nat.div_div_eq_div_mul]
  have h2 : 2 ≤ n / m := (Nat.le_div_iff_mul_le (by omega)).mpr (by omega)
  rw [e]
  conv => rhs; rw [Nat.log2_def, if_pos h2]
theorem log2_mono {a b : Nat} (h : a ≤ b) : Nat.log2 a ≤ Nat.log2 b := by
  by_cases ha : a = 0
  · rw [ha]; simp
  · exact (Nat.le_log2 (by omega)).mpr (Nat.le_trans ((Nat.le_log2 ha).mp (Nat.le_refl _)) h)
theorem log2_clog (m : Nat) : Nat.log2 m ≤ clog (m + 1) := by
  by_cases h0 : m = 0
  · rw [h0]; simp
  · have h := (Nat.le_log2 h0).mp (Nat.le_refl (Nat.log2 m))
    exact Nat.le_of_lt ((clog_lt _ _).mp (by omega))
theorem log2_step {n p b : Nat} (hb : b = 2 * p + 1 ∨ b = 2 * p + 2) (h : 2 * p + 1 < n) : Nat.log2 (n / (b + 1)) + 1 ≤ Nat.log2 (n / (p + 1)) := by
  rw [← log2_half (n := n) (m := p + 1) (by omega) (by omega)]
  exact Nat.succ_le_succ (log2_mono (Nat.div_le_div_left (by omega) (by omega)))
/-- the levels below the places up to k -/
def lvs (n : Nat) : Nat → Nat
  | 0 => 0
  | k + 1 => lvs n k + Nat.log2 (n / (k + 1))
theorem lvs_step (n : Nat) : ∀ k, lvs n k ≤ min k (n / 2) + lvs (n / 2) k
  | 0 => Nat.zero_le _
  | k + 1 => by
    have ih := lvs_step n k
    unfold lvs
    by_cases h : k + 1 ≤ n / 2
    · have h2 : 2 ≤ n / (k + 1) := (Nat.le_div_iff_mul_le (by omega)).mpr (by omega)
      have e : n / (k + 1) / 2 = n / 2 / (k + 1) := by rw [Nat.div_div_eq_div_mul, Nat.div_div_eq_div_mul, Nat.mul_comm]
      rw [Nat.log2_def (n / (k + 1)), if_pos h2, e]
      omega
    · have h2 : n / (k + 1) < 2 := (Nat.div_lt_iff_lt_mul (by omega)).mpr (by omega)
      rw [Nat.log2_def (n / (k + 1)), if_neg (by omega)]
      omega
theorem lvs_le (n : Nat) : ∀ k, lvs n k ≤ n := by
  induction n using Nat.strongRecOn with
  | _ n ih =>
    intro k
    by_cases h0 : n = 0
    · have : ∀ k, lvs 0 k = 0 := fun k => by
        induction k with
        | zero => rfl
        | succ k ih => unfold lvs; rw [ih]; simp
      rw [h0, this]
      exact Nat.le_refl _
    · have h1 := lvs_step n k
      have h2 := ih (n / 2) (by omega) k
      omega
end Mir

set_option pp.deepTerms false
set_option pp.maxSteps 1500
namespace Ord
open PySem PySem.Spec PyProof.Rows L2 LamX
theorem ixN_nat {n j : Nat} (h : j < n) : ixN n (j : Int) = some j := by
  unfold ixN
  rw [if_pos (by omega), if_pos (by omega), Int.toNat_natCast]
section
variable {P : Program} {w : World} {K : PySem.W.Frag} {mg : Str → Option Value} {base : Heap}
/-! ### is_heap -/
def spIsHeap (P : Program) (w : World) (K : PySem.W.Frag) (mg : Str → Option Value) (base : Heap) : Sp := fun vs H Q _ => ∃ (O : Orc P w K mg base) (a : Addr) (xs : List V) (l : Lg), vs = [.ref a, .ref O.f] ∧
  Row K O.q H a xs ∧ O.Log l H ∧ O.All xs H ∧ xs.length ≤ 1000 ∧ l.length + xs.length ≤ 90000 ∧
  ∀ H' b l', KB O.q H H' → O.Log l' H' → l'.length ≤ l.length + (xs.length - 1) → (∀ key, Mir.KeyA O.ans key → (b = true ↔ Mir.HeapOk key xs)) → Q (.bl b) H'
def N_is_heap : List Str := ["row", "order", "place"]
theorem sc_is_heap : FnScope ["row", "order", "place"] ["row", "order"] (defScope st_is_heap) := ⟨rfl, rfl, rfl, by decide +kernel, rfl, by decide +kernel, by decide +kernel⟩
theorem ok_is_heap (d_is_heap : Df K mg "is_heap" st_is_heap ["row", "order"]) (mLen : mg "len" = none) (mRange : mg "range" = none) : FnOk P w K mg base CX0 4 d_is_heap.f d_is_heap.fd ["row", "order"] (spIsHeap P w K mg base) := by
  refine d_is_heap.F.ok sc_is_heap (fun vs H Q E h => ?_) (fun cdv A outer s H vs Q E hr h => ?_)
  · obtain ⟨O, a, xs, l, rfl, _⟩ := h
    rfl
  · obtain ⟨O, a, xs, l, rfl, hR, hL, dx, hz, hc, k⟩ := h
    have nd := sc_is_heap.nd
    refine ⟨_, (pss_cons (ps_for PassesOwn.never rfl (pi_range2 (by rfl) mRange (pa_cons pe_int (pa_cons (pe_len mLen (pv 0)) pa_nil))) (pg_name (i := 2) nd rfl (Or.inl rfl))
    (pss_one (ps_if (pt_cmpR op_gt (pe_callV O.run (hr.mono (by decide)) (pa_cons (pe_ix ix_list (pv 0) (pe_op op_fdivE (pe_op op_subE (pv 2) pe_int) pe_int) (fun _ _ => rfl)) (pa_cons (pe_ix ix_list (pv 0) (pv 2) (fun _ _ => rfl)) pa_nil)) (i := 1)) pe_int (nomark _))
    (pss_one (ps_ret pe_bl))
    pss_nil)))
  (pss_one (ps_ret pe_bl))), ?_⟩
    refine ⟨_, rfl, a, xs, rfl, .inl hR.1, (1 : Int), (xs.length : Int), rfl, ⟨by omega, by omega, by omega, by omega⟩, ?_⟩
    refine for_range (lo := 1) (n := ((xs.length : Int) - 1).toNat) (fun i σ H' => ∃ (v2 : Option V) (l' : Lg), σ = [some (.ref a), some (.ref O.f), v2] ∧ KB O.q H H' ∧ O.Log l' H' ∧ l'.length = l.length + i ∧ ∀ key, Mir.KeyA O.ans key → ∀ (j : Nat) (x y : V), 1 ≤ j → j ≤ i → xs[(j - 1) / 2]? = some x → xs[j]? = some y → key x ≤ key y)
      ⟨none, l, rfl, KB.refl _ _, hL, rfl, fun key A j x y h1 h2 => by omega⟩ ?_ ?_
    · rintro i σ H1 hi ⟨v2, l', rfl, kb, hL', hl, hk⟩
      rw [show ((1 : Int) + (i : Nat)) = ((i + 1 : Nat) : Int) by omega]
      have hi' : i + 1 < xs.length := by omega
      obtain ⟨x, ex⟩ : ∃ x, xs[i / 2]? = some x := ⟨_, List.getElem?_eq_getElem (by omega)⟩
      obtain ⟨y, ey⟩ : ∃ y, xs[i + 1]? = some y := ⟨_, List.getElem?_eq_getElem hi'⟩
      have hS := (hR.kb kb).1
      refine ⟨rfl, O.isf hL', _, rfl, _, rfl, _, _, (i : Int), rfl, rfl, (by show (i : Int) = ((i + 1 : Nat) : Int) - 1; omega), _, _, ((i / 2 : Nat) : Int), rfl, rfl, ⟨by decide, by decide⟩, (by show ((i / 2 : Nat) : Int) = (i : Int) / 2; omega), a, xs, _, x, rfl, rfl, hS, atI_nat ex, _, rfl, _, rfl, a, xs, _, y, rfl, rfl, hS, atI_nat ey, O.isf hL', x, y, l', rfl, hL', by omega, (dx.tk kb.tk).get ex, (dx.tk kb.tk).get ey, fun H2 kb2 hL2 => ?_⟩
      refine ⟨_, _, rfl, rfl, _, rfl, ?_⟩
      have kb3 := kb.trans kb2
      refine iteD (fun h => ?_) (fun h => ?_)
      · refine k H2 false _ kb3 hL2 (by rw [List.length_append, List.length_singleton]; omega) fun key A => ⟨(fun z => by cases z), fun z => ?_⟩
        have h1 := z (i + 1) x y (by omega) (Nat.zero_le _) (by rw [Nat.add_sub_cancel]; exact ex) ey
        have h2 := (A.pos l' x y).mp h
        omega
      · refine ⟨_, _, rfl, kb3, hL2, by rw [List.length_append, List.length_singleton]; omega, fun key A j u v h1 h2 hu hv => ?_⟩
        by_cases e : j = i + 1
        · rw [e] at hu hv
          rw [Nat.add_sub_cancel, ex] at hu
          rw [ey] at hv
          cases hu
          cases hv
          have h3 : ¬ key y < key x := fun q => h ((A.pos l' x y).mpr q)
          omega
        · exact hk key A j u v h1 (by omega) hu hv
    · rintro σ H1 ⟨v2, l', rfl, kb, hL', hl, hk⟩
      refine k H1 true l' kb hL' (by omega) fun key A => ⟨fun _ j x y h1 _ hx hy => ?_, fun _ => rfl⟩
      have := (List.getElem?_eq_some_iff.mp hy).1
      exact hk key A j x y h1 (by omega) hx hy
/-! ### sunk -/
def spSunk (P : Program) (w : World) (K : PySem.W.Frag) (mg : Str → Option Value) (base : Heap) : Sp := fun vs H Q _ => ∃ (O : Orc P w K mg base) (a : Addr) (xs : List V) (pc : Nat) (l : Lg), vs = [.ref a, .int (pc : Int), .ref O.f] ∧
  Row K O.q H a xs ∧ O.Log l H ∧ O.All xs H ∧ xs.length ≤ 1000 ∧ l.length + 2 * Nat.log2 (xs.length / (pc + 1)) ≤ 90000 ∧
  ∀ H' p zs l', KB O.q H H' → H p = none → H' p = some (.lst zs) → O.Log l' H' → l'.length ≤ l.length + 2 * Nat.log2 (xs.length / (pc + 1)) → zs.Perm xs → (∀ key, Mir.KeyA O.ans key → Mir.HeapFrom key xs (pc + 1) → Mir.HeapFrom key zs pc) → Q (.ref p) H'
def N_sunk : List Str := ["row", "place", "order", "found", "below"]
theorem sc_sunk : FnScope ["row", "place", "order", "found", "below"] ["row", "place", "order"] (defScope st_sunk) := ⟨rfl, rfl, rfl, by decide +kernel, rfl, by decide +kernel, by decide +kernel⟩
theorem ok_sunk (d_sunk : Df K mg "sunk" st_sunk ["row", "place", "order"]) (mLen : mg "len" = none) (mList : mg "list" = none) : FnOk P w K mg base CX0 4 d_sunk.f d_sunk.fd ["row", "place", "order"] (spSunk P w K mg base) := by
  refine d_sunk.F.ok sc_sunk (fun vs H Q E h => ?_) (fun cdv A outer s H vs Q E hr h => ?_)
  · obtain ⟨O, a, xs, pc, l, rfl, _⟩ := h
    rfl
  · obtain ⟨O, a, xs, pc, l, rfl, hR, hL, dx, hz, hc, k⟩ := h
    have nd := sc_sunk.nd
    refine ⟨_, (pss_cons (ps_set (i := 3) nd rfl (Or.inl rfl) (pe_callTy call_list_of (by rfl) mList (by decide +kernel) (pa_cons (pv 0) pa_nil)))
  (pss_cons (ps_while PassesOwn.never (pt_cmpR op_lt (pe_op op_addE (pe_op op_mulE pe_int (pv 1)) pe_int) (pe_len mLen (pv 3)) (nomark _))
    (pss_cons (ps_set (i := 4) nd rfl (Or.inl rfl) (pe_op op_addE (pe_op op_mulE pe_int (pv 1)) pe_int))
  (C8.pss_cut (ps_if (PW.pt (pw_and (pt_cmpR op_lt (pe_op op_addE (pv 4) pe_int) (pe_len mLen (pv 3)) (nomark _)) (pw_and1 (pt_cmpR op_gt (pe_callV O.run (hr.mono (by decide)) (pa_cons (pe_ix ix_list (pv 3) (pv 4) (fun _ _ => rfl)) (pa_cons (pe_ix ix_list (pv 3) (pe_op op_addE (pv 4) pe_int) (fun _ _ => rfl)) pa_nil)) (i := 2)) pe_int (nomark _)))))
    (pss_one (ps_set (i := 4) nd rfl (Or.inl rfl) (pe_op op_addE (pv 4) pe_int)))
    pss_nil)
  (pss_cons (ps_if (pt_cmpR op_le (pe_callV O.run (hr.mono (by decide)) (pa_cons (pe_ix ix_list (pv 3) (pv 1) (fun _ _ => rfl)) (pa_cons (pe_ix ix_list (pv 3) (pv 4) (fun _ _ => rfl)) pa_nil)) (i := 2)) pe_int (nomark _))
    (pss_one (ps_ret (pv 3)))
    pss_nil)
  (pss_cons (ps_asg (pe_tup (pa_cons (pe_ix ix_list (pv 3) (pv 4) (fun _ _ => rfl)) (pa_cons (pe_ix ix_list (pv 3) (pv 1) (fun _ _ => rfl)) pa_nil))) (pg_tup (by rfl) (pgs_cons (pg_sub (pv 3) (pv 1) set_list) (pgs_cons (pg_sub (pv 3) (pv 4) set_list) pgs_nil))))
  (pss_one (ps_set (i := 1) nd rfl (Or.inl rfl) (pv 4))))))))
  (pss_one (ps_ret (pv 3))))), ?_⟩
    refine ⟨_, rfl, a, xs, rfl, .inl hR.1, fun p np => ?_⟩
    have pq : p ≠ O.q := Orc.nq hL np
    refine ⟨fun mu σ H' => ∃ (pl : Nat) (v4 : Option V) (ys : List V) (l' : Lg), σ = [some (.ref a), some (.int (pl : Nat)), some (.ref O.f), some (.ref p), v4] ∧ mu = xs.length - pl ∧ KB O.q H H' ∧ H' p = some (.lst ys) ∧ O.Log l' H' ∧ ys.Perm xs ∧ pc ≤ pl ∧ l'.length + 2 * Nat.log2 (xs.length / (pl + 1)) ≤ l.length + 2 * Nat.log2 (xs.length / (pc + 1)) ∧ ∀ key, Mir.KeyA O.ans key → Mir.HeapFrom key xs (pc + 1) → Mir.Down key ys pc pl,
      ⟨_, pc, none, xs, l, rfl, rfl, KB.new np, upd_same, O.new hL np, List.Perm.refl _, Nat.le_refl _, Nat.le_refl _, fun key A h => Mir.Down.start h⟩, ?_⟩
    rintro mu σ H1 ⟨pl, v4, ys, l', rfl, rfl, kb, hp, hL', hpm, hle, hl, hk⟩
    have ly := hpm.length_eq
    have dy : O.All ys H1 := fun z hz' => (dx.tk kb.tk) z (hpm.subset hz')
    refine ⟨_, rfl, _, _, ((2 * pl : Nat) : Int), rfl, rfl, .inl ⟨by decide, by decide⟩, (by show ((2 * pl : Nat) : Int) = 2 * (pl : Int); omega), _, _, ((2 * pl + 1 : Nat) : Int), rfl, rfl, rfl, _, rfl, p, ys, rfl, .inl (SqL.of hp), _, _, rfl, rfl, _, rfl, ?_⟩
    refine iteD (fun h => ?go) (fun h => ?stop)
    case stop =>
      refine ⟨_, rfl, ?_⟩
      exact k H1 p ys l' kb np hp hL' (by omega) hpm fun key A hf => (hk key A hf).none (by have : ¬ ((2 * pl + 1 : Nat) : Int) < (ys.length : Int) := h; omega)
    have hlt : 2 * pl + 1 < ys.length := by have : ((2 * pl + 1 : Nat) : Int) < (ys.length : Int) := h; omega
    obtain ⟨y1, ey1⟩ : ∃ y, ys[2 * pl + 1]? = some y := ⟨_, List.getElem?_eq_getElem hlt⟩
    obtain ⟨x, ex⟩ : ∃ x, ys[pl]? = some x := ⟨_, List.getElem?_eq_getElem (by omega)⟩
    have hlog : Nat.log2 (xs.length / (2 * pl + 1 + 1)) + 1 ≤ Nat.log2 (xs.length / (pl + 1)) := Mir.log2_step (.inl rfl) (by omega)
    have hlog2 : Nat.log2 (xs.length / (2 * pl + 2 + 1)) + 1 ≤ Nat.log2 (xs.length / (pl + 1)) := Mir.log2_step (.inr rfl) (by omega)
    refine ⟨_, fun _ _ h => h, ?_⟩
    refine ⟨_, rfl, _, _, ((2 * pl : Nat) : Int), rfl, rfl, .inl ⟨by decide, by decide⟩, (by show ((2 * pl : Nat) : Int) = 2 * (pl : Int); omega), _, _, ((2 * pl + 1 : Nat) : Int), rfl, rfl, rfl, ?_⟩
    -- the lesser one below
    refine ⟨fun σ H2 => ∃ (b : Nat) (y : V) (l2 : Lg), σ = [some (.ref a), some (.int (pl : Nat)), some (.ref O.f), some (.ref p), some (.int (b : Nat))] ∧ (b = 2 * pl + 1 ∨ b = 2 * pl + 2) ∧ ys[b]? = some y ∧ KB O.q H H2 ∧ H2 p = some (.lst ys) ∧ O.Log l2 H2 ∧ l2.length ≤ l'.length + 1 ∧ ∀ key, Mir.KeyA O.ans key → ∀ (j : Nat) (z : V), (j = 2 * pl + 1 ∨ j = 2 * pl + 2) → ys[j]? = some z → key y ≤ key z, ?_, ?_⟩
    · refine ⟨_, rfl, _, _, ((2 * pl + 2 : Nat) : Int), rfl, rfl, rfl, _, rfl, p, ys, rfl, .inl (SqL.of hp), _, _, rfl, rfl, _, rfl, ?_⟩
      refine iteD (fun h2 => ?_) (fun h2 => ?_)
      · have hlt2 : 2 * pl + 2 < ys.length := by have : ((2 * pl + 2 : Nat) : Int) < (ys.length : Int) := h2; omega
        obtain ⟨y2, ey2⟩ : ∃ y, ys[2 * pl + 2]? = some y := ⟨_, List.getElem?_eq_getElem hlt2⟩
        refine ⟨rfl, O.isf hL', _, rfl, _, rfl, p, ys, _, y1, rfl, rfl, SqL.of hp, atI_nat ey1, _, rfl, _, rfl, _, _, ((2 * pl + 2 : Nat) : Int), rfl, rfl, rfl, p, ys, _, y2, rfl, rfl, SqL.of hp, atI_nat ey2, O.isf hL', y1, y2, l', rfl, hL', by omega, dy.get ey1, dy.get ey2, fun H2 kb2 hL2 => ?_⟩
        have kb3 := kb.trans kb2
        have hp2 := kb2.keep _ _ pq hp
        refine ⟨_, _, rfl, rfl, _, rfl, ?_⟩
        refine iteD (fun h3 => ?_) (fun h3 => ?_)
        · refine ⟨_, rfl, _, _, ((2 * pl + 2 : Nat) : Int), rfl, rfl, rfl, 2 * pl + 2, y2, _, rfl, .inr rfl, ey2, kb3, hp2, hL2, by rw [List.length_append, List.length_singleton]; omega, fun key A j z hj hz' => ?_⟩
          have h4 := (A.pos l' y1 y2).mp h3
          rcases hj with e | e <;> rw [e] at hz'
          · rw [ey1] at hz'
            cases hz'
            omega
          · rw [ey2] at hz'
            cases hz'
            omega
        · refine ⟨2 * pl + 1, y1, _, rfl, .inl rfl, ey1, kb3, hp2, hL2, by rw [List.length_append, List.length_singleton]; omega, fun key A j z hj hz' => ?_⟩
          have h4 : ¬ key y2 < key y1 := fun q => h3 ((A.pos l' y1 y2).mpr q)
          rcases hj with e | e <;> rw [e] at hz'
          · rw [ey1] at hz'
            cases hz'
            omega
          · rw [ey2] at hz'
            cases hz'
            omega
      · refine ⟨2 * pl + 1, y1, l', rfl, .inl rfl, ey1, kb, hp, hL', by omega, fun key A j z hj hz' => ?_⟩
        have hn : ¬ ((2 * pl + 2 : Nat) : Int) < (ys.length : Int) := h2
        have lj := (List.getElem?_eq_some_iff.mp hz').1
        have e : j = 2 * pl + 1 := by omega
        rw [e, ey1] at hz'
        cases hz'
        omega
    rintro σ H2 ⟨b, y, l2, rfl, hb, ey, kb2, hp2, hL2, hl2, hmn⟩
    have dy2 : O.All ys H2 := fun z hz' => (dx.tk kb2.tk) z (hpm.subset hz')
    have lb := (List.getElem?_eq_some_iff.mp ey).1
    have hlogb : Nat.log2 (xs.length / (b + 1)) + 1 ≤ Nat.log2 (xs.length / (pl + 1)) := by rcases hb with e | e <;> rw [e] <;> assumption
    refine ⟨rfl, O.isf hL2, _, rfl, _, rfl, p, ys, _, x, rfl, rfl, SqL.of hp2, atI_nat ex, _, rfl, _, rfl, p, ys, _, y, rfl, rfl, SqL.of hp2, atI_nat ey, O.isf hL2, x, y, l2, rfl, hL2, by omega, dy2.get ex, dy2.get ey, fun H3 kb3 hL3 => ?_⟩
    have kb4 := kb2.trans kb3
    have hp3 := kb3.keep _ _ pq hp2
    refine ⟨_, _, rfl, rfl, _, rfl, ?_⟩
    refine iteD (fun h3 => ?_) (fun h3 => ?_)
    · refine ⟨_, rfl, ?_⟩
      exact k H3 p ys _ kb4 np hp3 hL3 (by rw [List.length_append, List.length_singleton]; omega) hpm fun key A hf => (hk key A hf).stop ex ((A.le l2 x y).mp h3) (hmn key A)
    -- turned about
    have pb : pl ≠ b := by omega
    refine ⟨_, rfl, _, rfl, p, ys, _, y, rfl, rfl, SqL.of hp3, atI_nat ey, _, rfl, _, rfl, p, ys, _, x, rfl, rfl, SqL.of hp3, atI_nat ex, by show 2 ≤ sizeLine; decide, fun t nt => ?_⟩
    have hp4 := kn (o := .tup [y, x]) nt hp3
    have tp : t ≠ p := fun z => by
      rw [← z, nt] at hp3
      cases hp3
    have kb5 := kb4.trans (KB.new (o := .tup [y, x]) nt)
    have hL4 := Orc.new (o := .tup [y, x]) hL3 nt
    refine ⟨t, _, rfl, SqT.of upd_same, rfl, ?_⟩
    refine ⟨_, _, rfl, _, rfl, _, rfl, p, ys, _, pl, rfl, rfl, hp4, ixN_nat (by omega), ?_⟩
    have hL5 := Orc.wr (o := .lst (ys.set pl y)) hL4 hp4 nf_lst pq
    have kb6 := KB.wr (o := .lst (ys.set pl y)) kb5 np
    refine ⟨_, _, rfl, _, rfl, _, rfl, p, ys.set pl y, _, b, rfl, rfl, upd_same, ixN_nat (by rw [List.length_set]; omega), ?_⟩
    have hL6 := Orc.wr (o := .lst ((ys.set pl y).set b x)) hL5 upd_same nf_lst pq
    have kb7 := KB.wr (o := .lst ((ys.set pl y).set b x)) kb6 np
    refine ⟨rfl, _, rfl, _, by omega, b, _, _, _, rfl, rfl, kb7, upd_same, hL6, (Mir.swap_perm ex ey pb).trans hpm, by omega, by rw [List.length_append, List.length_singleton]; omega, fun key A hf => ?_⟩
    exact (hk key A hf).step hb ex ey (fun z => h3 ((A.le l2 x y).mpr z)) (hmn key A)
end
end Ord

namespace Ord
open PySem PySem.Spec PyProof.Rows L2 LamX
theorem ps_dead {X : Cx} {st : Stmt} : PS X st (fun _ _ _ => False) := ⟨fun pins s σ H D I h => h.elim⟩
/-- a row that may be looked at as data -/
def Dat (K : PySem.W.Frag) (xs : List V) (H : Hp) : Prop := ∀ H', TK H H' → ∃ ds, DpAll K H' xs ds ∧ SeqAt.shaped (.list ds) = true
theorem Dat.tk {K : PySem.W.Frag} {xs : List V} {H H' : Hp} (h : Dat K xs H) (k : TK H H') : Dat K xs H' := fun H2 k2 => h H2 (k.trans k2)
theorem eqv_cons_nil (d : PyData) (ds : List PyData) : PyData.eqv (.list (d :: ds)) (.list []) = false := by
  rw [PyData.eqv, PyData.eqvAll]
/-- so may rows of its elements -/
def DatS (K : PySem.W.Frag) (xs : List V) (H : Hp) : Prop := ∀ ys, (∀ y ∈ ys, y ∈ xs) → Dat K ys H
theorem DatS.tk {K : PySem.W.Frag} {xs : List V} {H H' : Hp} (h : DatS K xs H) (k : TK H H') : DatS K xs H' := fun ys s => (h ys s).tk k
theorem DatS.of {K : PySem.W.Frag} {xs : List V} {H : Hp} {c : V → Int × Int} (h : Els c xs H) : DatS K xs H := fun ys s H' k => ⟨_, dp_els fun y hy => (h y (s y hy)).tk k, shaped_row c _⟩
theorem eqv_nil_iff {K : PySem.W.Frag} {H : Hp} {ys : List V} {ds : List PyData} (h : DpAll K H ys ds) : PyData.eqv (.list ds) (.list []) = decide (ys = []) := by
  cases h with
  | nil => rw [PyData.eqv, PyData.eqvAll]; simp
  | cons a b => rw [eqv_cons_nil]; simp
theorem cut_last {xs : List V} : cutV xs none (some (-1)) = xs.dropLast := by
  unfold cutV
  rw [HT.sIx_none, List.drop_zero, Nat.sub_zero]
  have e : HT.sIx xs.length xs.length (some (-1)) = xs.length - 1 := by
    unfold HT.sIx
    simp
    omega
  rw [e, List.dropLast_eq_take]
end Ord

set_option pp.deepTerms false
set_option pp.maxSteps 1500
namespace Ord
open PySem PySem.Spec PyProof.Rows L2 LamX
section
variable {P : Program} {w : World} {K : PySem.W.Frag} {mg : Str → Option Value} {base : Heap}
/-! ### push -/
def spPush (P : Program) (w : World) (K : PySem.W.Frag) (mg : Str → Option Value) (base : Heap) : Sp := fun vs H Q _ => ∃ (O : Orc P w K mg base) (a : Addr) (xs : List V) (x : V) (l : Lg), vs = [.ref a, x, .ref O.f] ∧
  Row K O.q H a xs ∧ O.Log l H ∧ O.All xs H ∧ O.Dom x H ∧ xs.length ≤ 900 ∧ l.length + xs.length ≤ 80000 ∧
  ∀ H' p zs l', KB O.q H H' → H p = none → H' p = some (.lst zs) → O.Log l' H' → l'.length ≤ l.length + Mir.clog (xs.length + 1) → zs.Perm (xs ++ [x]) → (∀ key, Mir.KeyA O.ans key → Mir.HeapOk key xs → Mir.HeapOk key zs) → Q (.ref p) H'
def N_push : List Str := ["heap", "new", "order", "found", "place", "above"]
theorem sc_push : FnScope ["heap", "new", "order", "found", "place", "above"] ["heap", "new", "order"] (defScope st_push) := ⟨rfl, rfl, rfl, by decide +kernel, rfl, by decide +kernel, by decide +kernel⟩
theorem ok_push (d_push : Df K mg "push" st_push ["heap", "new", "order"]) (mLen : mg "len" = none) (mList : mg "list" = none) : FnOk P w K mg base CX0 4 d_push.f d_push.fd ["heap", "new", "order"] (spPush P w K mg base) := by
  refine d_push.F.ok sc_push (fun vs H Q E h => ?_) (fun cdv A outer s H vs Q E hr h => ?_)
  · obtain ⟨O, a, xs, x, l, rfl, _⟩ := h
    rfl
  · obtain ⟨O, a, xs, e, l, rfl, hR, hL, dx, de, hz, hc, k⟩ := h
    have nd := sc_push.nd
    refine ⟨_, (pss_cons (ps_set (i := 3) nd rfl (Or.inl rfl) (pe_op op_cat (pe_callTy call_list_of (by rfl) mList (by decide +kernel) (pa_cons (pv 0) pa_nil)) (pe_lst (pa_cons (pv 1) pa_nil))))
  (pss_cons (ps_set (i := 4) nd rfl (Or.inl rfl) (pe_len mLen (pv 0)))
  (pss_cons (ps_while PassesOwn.never (PW.pt (pw_and (pt_cmpR op_gt (pv 4) pe_int (nomark _)) (pw_and1 (pt_cmpR op_gt (pe_callV O.run (hr.mono (by decide)) (pa_cons (pe_ix ix_list (pv 3) (pe_op op_fdivE (pe_op op_subE (pv 4) pe_int) pe_int) (fun _ _ => rfl)) (pa_cons (pe_ix ix_list (pv 3) (pv 4) (fun _ _ => rfl)) pa_nil)) (i := 2)) pe_int (nomark _)))))
    (pss_cons (ps_set (i := 5) nd rfl (Or.inl rfl) (pe_op op_fdivE (pe_op op_subE (pv 4) pe_int) pe_int))
  (pss_cons (ps_asg (pe_tup (pa_cons (pe_ix ix_list (pv 3) (pv 4) (fun _ _ => rfl)) (pa_cons (pe_ix ix_list (pv 3) (pv 5) (fun _ _ => rfl)) pa_nil))) (pg_tup (by rfl) (pgs_cons (pg_sub (pv 3) (pv 5) set_list) (pgs_cons (pg_sub (pv 3) (pv 4) set_list) pgs_nil))))
  (pss_one (ps_set (i := 4) nd rfl (Or.inl rfl) (pv 5))))))
  (pss_one (ps_ret (pv 3)))))), ?_⟩
    refine ⟨_, rfl, a, xs, rfl, .inl hR.1, fun p1 n1 => ?_⟩
    refine ⟨_, rfl, by show 1 ≤ sizeLine; decide, fun p2 n2 => ?_⟩
    refine ⟨p1, p2, xs, [e], rfl, rfl, kn n2 upd_same, upd_same, z1000 (by show xs.length + 1 ≤ 1000; omega), fun p np3 => ?_⟩
    have kb0 : KB O.q H (upd (upd (upd H p1 (.lst xs)) p2 (.lst [e])) p (.lst (xs ++ [e]))) := ((KB.new n1).trans (KB.new n2)).trans (KB.new np3)
    have hL0 := Orc.new (o := .lst (xs ++ [e])) (Orc.new (o := .lst [e]) (Orc.new (o := .lst xs) hL n1) n2) np3
    have np : H p = none := upd_none (upd_none np3)
    have hp0 : upd (upd (upd H p1 (.lst xs)) p2 (.lst [e])) p (.lst (xs ++ [e])) p = some (.lst (xs ++ [e])) := upd_same
    obtain ⟨H0, e0⟩ : ∃ H0, H0 = upd (upd (upd H p1 (.lst xs)) p2 (.lst [e])) p (.lst (xs ++ [e])) := ⟨_, rfl⟩
    rw [← e0] at kb0 hL0 hp0 ⊢
    clear e0 np3 n2 n1
    have pq : p ≠ O.q := Orc.nq hL np
    refine ⟨_, rfl, a, xs, rfl, .inl (hR.kb kb0).1, ?_⟩
    refine ⟨fun mu σ H' => ∃ (pl : Nat) (v5 : Option V) (ys : List V) (l' : Lg), σ = [some (.ref a), some e, some (.ref O.f), some (.ref p), some (.int (pl : Nat)), v5] ∧ mu = pl ∧ KB O.q H H' ∧ H' p = some (.lst ys) ∧ O.Log l' H' ∧ ys.Perm (xs ++ [e]) ∧ pl ≤ xs.length ∧ l'.length + Mir.clog (pl + 1) ≤ l.length + Mir.clog (xs.length + 1) ∧ ∀ key, Mir.KeyA O.ans key → Mir.HeapOk key xs → Mir.Up key ys pl,
      ⟨_, xs.length, none, xs ++ [e], l, rfl, rfl, kb0, hp0, hL0, List.Perm.refl _, Nat.le_refl _, Nat.le_refl _, fun key A h => Mir.Up.start h⟩, ?_⟩
    rintro mu σ H1 ⟨pl, v5, ys, l', rfl, rfl, kb, hp, hL', hpm, hle, hl, hk⟩
    have ly := hpm.length_eq
    rw [List.length_append, List.length_singleton] at ly
    have ccl : Mir.clog (xs.length + 1) ≤ xs.length + 1 := Mir.clog_le_self _
    have dy : O.All ys H1 := fun z hz' => by
      rcases List.mem_append.mp (hpm.subset hz') with q | q
      · exact (dx.tk kb.tk) z q
      · rw [List.mem_singleton.mp q]
        exact O.dom kb.tk de
    refine ⟨_, rfl, _, _, rfl, rfl, _, rfl, ?_⟩
    refine iteD (fun h => ?go) (fun h => ?stop)
    case stop =>
      have h0 : mu = 0 := by have : ¬ (0 : Int) < (mu : Int) := h; omega
      refine iteF ⟨_, rfl, ?_⟩
      exact k H1 p ys l' kb np hp hL' (by omega) hpm fun key A hf => by
        have h := hk key A hf
        rw [h0] at h
        exact h.zero
    have h0 : 0 < mu := by have : (0 : Int) < (mu : Int) := h; omega
    obtain ⟨x, ex⟩ : ∃ x, ys[(mu - 1) / 2]? = some x := ⟨_, List.getElem?_eq_getElem (by omega)⟩
    obtain ⟨y, ey⟩ : ∃ y, ys[mu]? = some y := ⟨_, List.getElem?_eq_getElem (by omega)⟩
    have hlog : Mir.clog ((mu - 1) / 2 + 1) + 1 ≤ Mir.clog (mu + 1) := by
      rw [Mir.clog_half (n := mu + 1) (by omega)]
      exact Nat.succ_le_succ (Mir.clog_mono (by omega))
    refine ⟨rfl, O.isf hL', _, rfl, _, rfl, _, _, (mu : Int) - 1, rfl, rfl, rfl, _, _, (((mu - 1) / 2 : Nat) : Int), rfl, rfl, ⟨by decide, by decide⟩, (by show (((mu - 1) / 2 : Nat) : Int) = ((mu : Int) - 1) / 2; omega), p, ys, _, x, rfl, rfl, SqL.of hp, atI_nat ex, _, rfl, _, rfl, p, ys, _, y, rfl, rfl, SqL.of hp, atI_nat ey, O.isf hL', x, y, l', rfl, hL', by omega, dy.get ex, dy.get ey, fun H2 kb2 hL2 => ?_⟩
    have kb3 := kb.trans kb2
    have hp2 := kb2.keep _ _ pq hp
    refine ⟨_, _, rfl, rfl, _, rfl, ?_⟩
    refine iteD (fun h3 => ?go2) (fun h3 => ?stop2)
    case stop2 =>
      refine ⟨_, rfl, ?_⟩
      have h3' : ¬ 0 < O.ans l' x y := h3
      exact k H2 p ys _ kb3 np hp2 hL2 (by rw [List.length_append, List.length_singleton]; omega) hpm fun key A hf => (hk key A hf).stop ex ey ((A.le l' x y).mp (by omega))
    have n : (mu - 1) / 2 ≠ mu := by omega
    refine ⟨_, fun _ _ h => h, ?_⟩
    refine ⟨_, rfl, _, _, (mu : Int) - 1, rfl, rfl, rfl, _, _, (((mu - 1) / 2 : Nat) : Int), rfl, rfl, ⟨by decide, by decide⟩, (by show (((mu - 1) / 2 : Nat) : Int) = ((mu : Int) - 1) / 2; omega), ?_⟩
    refine ⟨_, rfl, _, rfl, p, ys, _, y, rfl, rfl, SqL.of hp2, atI_nat ey, _, rfl, _, rfl, p, ys, _, x, rfl, rfl, SqL.of hp2, atI_nat ex, by show 2 ≤ sizeLine; decide, fun t nt => ?_⟩
    have hp4 := kn (o := .tup [y, x]) nt hp2
    have kb5 := kb3.trans (KB.new (o := .tup [y, x]) nt)
    have hL4 := Orc.new (o := .tup [y, x]) hL2 nt
    refine ⟨t, _, rfl, SqT.of upd_same, rfl, ?_⟩
    refine ⟨_, _, rfl, _, rfl, _, rfl, p, ys, _, (mu - 1) / 2, rfl, rfl, hp4, ixN_nat (by omega), ?_⟩
    have hL5 := Orc.wr (o := .lst (ys.set ((mu - 1) / 2) y)) hL4 hp4 nf_lst pq
    have kb6 := KB.wr (o := .lst (ys.set ((mu - 1) / 2) y)) kb5 np
    refine ⟨_, _, rfl, _, rfl, _, rfl, p, ys.set ((mu - 1) / 2) y, _, mu, rfl, rfl, upd_same, ixN_nat (by rw [List.length_set]; omega), ?_⟩
    have hL6 := Orc.wr (o := .lst ((ys.set ((mu - 1) / 2) y).set mu x)) hL5 upd_same nf_lst pq
    have kb7 := KB.wr (o := .lst ((ys.set ((mu - 1) / 2) y).set mu x)) kb6 np
    refine ⟨rfl, _, rfl, _, by omega, (mu - 1) / 2, _, _, _, rfl, rfl, kb7, upd_same, hL6, (Mir.swap_perm ex ey n).trans hpm, by omega, by rw [List.length_append, List.length_singleton]; omega, fun key A hf => ?_⟩
    have h4 := (A.pos l' x y).mp h3
    exact (hk key A hf).step (by omega) ex ey (by omega)
/-! ### pop -/
def spPop (P : Program) (w : World) (K : PySem.W.Frag) (mg : Str → Option Value) (base : Heap) : Sp := fun vs H Q _ => ∃ (O : Orc P w K mg base) (a : Addr) (h0 : V) (t : List V) (l : Lg), vs = [.ref a, .ref O.f] ∧
  Row K O.q H a (h0 :: t) ∧ O.Log l H ∧ O.All (h0 :: t) H ∧ DatS K (h0 :: t) H ∧ t.length ≤ 900 ∧ l.length + t.length ≤ 80000 ∧
  ∀ H' tu p zs l', KB O.q H H' → H tu = none → H' tu = some (.tup [h0, .ref p]) → H p = none → H' p = some (.lst zs) → O.Log l' H' → l'.length ≤ l.length + 2 * Mir.clog (t.length + 1) → zs.Perm t → (∀ key, Mir.KeyA O.ans key → Mir.HeapOk key (h0 :: t) → Mir.HeapOk key zs) → Q (.ref tu) H'
def N_pop : List Str := ["heap", "order", "rest"]
theorem sc_pop : FnScope ["heap", "order", "rest"] ["heap", "order"] (defScope st_pop) := ⟨rfl, rfl, rfl, by decide +kernel, rfl, by decide +kernel, by decide +kernel⟩
theorem ok_pop (d_pop : Df K mg "pop" st_pop ["heap", "order"]) (d_sunk : Df K mg "sunk" st_sunk ["row", "place", "order"]) (mLen : mg "len" = none) (mList : mg "list" = none) : FnOk P w K mg base CX0 5 d_pop.f d_pop.fd ["heap", "order"] (spPop P w K mg base) := by
  have G_sunk : FnOk P w K mg base CX0 4 d_sunk.f d_sunk.fd ["row", "place", "order"] (spSunk P w K mg base) := ok_sunk d_sunk mLen mList
  refine d_pop.F.ok sc_pop (fun vs H Q E h => ?_) (fun cdv A outer s H vs Q E hr h => ?_)
  · obtain ⟨O, a, h0, t, l, rfl, _⟩ := h
    rfl
  · obtain ⟨O, a, h0, t, l, rfl, hR, hL, dx, hD, hz, hc, k⟩ := h
    have nd := sc_pop.nd
    refine ⟨_, (pss_cons (ps_if (pt_cmpR (op_eqD hr.units) (pv 0) (pe_lst pa_nil) (nomark _))
    (pss_one ps_dead)
    pss_nil)
  (pss_cons (ps_set (i := 2) nd rfl (Or.inl rfl) (pe_callTy call_list_of (by rfl) mList (by decide +kernel) (pa_cons (pe_slice sl_list (pv 0) po_none (po_some (pe_un un_neg pe_int))) pa_nil)))
  (C8.pss_cut (ps_if (pt_cmpR (op_neD hr.units) (pv 2) (pe_lst pa_nil) (nomark _))
    (pss_one (ps_asg (pe_ix ix_list (pv 0) (pe_un un_neg pe_int) (fun _ _ => rfl)) (pg_sub (pv 2) pe_int set_list)))
    pss_nil)
  (pss_one (ps_ret (pe_tup (pa_cons (pe_ix ix_list (pv 0) pe_int (fun _ _ => rfl)) (pa_cons (pe_cd (d := d_sunk) G_sunk (hr.mono (by decide)) (pa_cons (pv 2) (pa_cons pe_int (pa_cons (pv 1) pa_nil)))) pa_nil)))))))), ?_⟩
    obtain ⟨xs, exs⟩ : ∃ xs, xs = h0 :: t := ⟨_, rfl⟩
    rw [← exs] at hR dx hD k
    have lxs : xs.length = t.length + 1 := by rw [exs]; rfl
    have e0 : xs[0]? = some h0 := by rw [exs]; rfl
    refine ⟨_, rfl, Nat.zero_le _, fun p0 n0 => ?_⟩
    have kb0 : KB O.q H (upd H p0 (.lst [])) := KB.new n0
    have hL0 := Orc.new (o := .lst []) hL n0
    obtain ⟨ds, hds, hsh⟩ := hD xs (fun _ h => h) _ kb0.tk
    refine ⟨_, _, .lst (hR.kb kb0).1 hds, .lst (SqL.of upd_same) .nil, hsh, shaped_nil, _, rfl, ?_⟩
    rw [eqv_nil_iff hds, decide_eq_false (by rw [exs]; simp)]
    refine iteF ?_
    -- the rest
    refine ⟨_, rfl, _, rfl, _, rfl, a, xs, rfl, (hR.kb kb0).1, fun p1 n1 => ?_⟩
    rw [show cutV xs none (some (-1)) = xs.dropLast from cut_last]
    have hL1 := Orc.new (o := .lst xs.dropLast) hL0 n1
    refine ⟨p1, xs.dropLast, rfl, .inl (SqL.of upd_same), fun rp nrp => ?_⟩
    have kb1 := (kb0.trans (KB.new (o := .lst xs.dropLast) n1)).trans (KB.new (o := .lst xs.dropLast) nrp)
    have hL2 := Orc.new (o := .lst xs.dropLast) hL1 nrp
    have nr : H rp = none := upd_none (upd_none nrp)
    obtain ⟨H1, e1⟩ : ∃ H1, H1 = upd (upd (upd H p0 (.lst [])) p1 (.lst xs.dropLast)) rp (.lst xs.dropLast) := ⟨_, rfl⟩
    have hrp : H1 rp = some (.lst xs.dropLast) := by rw [e1]; exact upd_same
    rw [← e1] at kb1 hL2 ⊢
    clear e1 nrp hL1 n1 hds hL0 kb0 n0
    have rq : rp ≠ O.q := Orc.nq hL nr
    refine ⟨fun σ H2 => ∃ ys : List V, σ = [some (.ref a), some (.ref O.f), some (.ref rp)] ∧ KB O.q H H2 ∧ O.Log l H2 ∧ H2 rp = some (.lst ys) ∧ ys.Perm t ∧ ∀ key, Mir.HeapOk key xs → Mir.HeapFrom key ys 1, ?_, ?_⟩
    · refine ⟨_, rfl, Nat.zero_le _, fun p2 n2 => ?_⟩
      have kb2 := kb1.trans (KB.new (o := .lst []) n2)
      have hL3 := Orc.new (o := .lst []) hL2 n2
      have hrp2 := kn (o := .lst []) n2 hrp
      obtain ⟨ds, hds, hsh⟩ := hD xs.dropLast (fun y hy => List.dropLast_subset _ hy) _ kb2.tk
      refine ⟨_, _, .lst (SqL.of hrp2) hds, .lst (SqL.of upd_same) .nil, hsh, shaped_nil, _, rfl, ?_⟩
      rw [eqv_nil_iff hds]
      by_cases ht : t = []
      · rw [show decide (xs.dropLast = []) = true from by rw [exs, ht]; rfl]
        refine iteF ⟨xs.dropLast, rfl, kb2, hL3, hrp2, ?_, fun key hk => ?_⟩
        · rw [exs, ht]
          exact List.Perm.refl _
        · refine Mir.heap_nil _ ?_
          rw [exs, ht]
          simp
      · have hdl : xs.dropLast ≠ [] := fun z => by
          have h := congrArg List.length z
          rw [List.length_dropLast, lxs] at h
          exact ht (List.length_eq_zero_iff.mp (by simpa using h))
        rw [decide_eq_false hdl]
        refine iteT ?_
        obtain ⟨z, ez⟩ : ∃ z, xs.getLast? = some z := ⟨_, List.getLast?_eq_some_getLast (by rw [exs]; simp)⟩
        have az : atI xs (-1) = some z := by
          obtain ⟨r, er⟩ := List.getLast?_eq_some_iff.mp ez
          rw [er]
          exact atI_last r z
        refine ⟨_, rfl, _, rfl, a, xs, _, z, rfl, rfl, (hR.kb kb2).1, az, ?_⟩
        refine ⟨_, rfl, rp, xs.dropLast, 0, 0, rfl, rfl, hrp2, ixN_nat (j := 0) (List.length_pos_iff.mpr hdl), ?_⟩
        refine ⟨xs.dropLast.set 0 z, rfl, KB.wr kb2 nr, Orc.wr hL3 hrp2 nf_lst rq, upd_same, ?_, fun key hk => Mir.pop_heap hk⟩
        rw [exs]
        exact Mir.pop_perm (by rw [← exs]; exact ez) ht
    rintro σ H2 ⟨ys, rfl, kb2, hL3, hrp2, hpm, hk⟩
    have ly := hpm.length_eq
    have dt : O.All ys H2 := fun z hz' => (dx.tk kb2.tk) z (by rw [exs]; exact List.mem_cons_of_mem _ (hpm.subset hz'))
    have lg : Nat.log2 (ys.length / (0 + 1)) ≤ Mir.clog (t.length + 1) := by
      rw [Nat.zero_add, Nat.div_one, ly]
      exact Mir.log2_clog _
    have lg2 : Mir.clog (t.length + 1) ≤ t.length + 1 := Mir.clog_le_self _
    refine ⟨_, rfl, a, xs, 0, h0, rfl, rfl, (hR.kb kb2).1, atI_nat (j := 0) e0, _, rfl, _, rfl, O, rp, ys, 0, l, rfl, Row.of hrp2 rq, hL3, dt, by omega, by omega, fun H3 p zs l' kb3 np hp hL4 hc4 hpm4 hk4 => ?_⟩
    have np2 : H p = none := kb2.free (Orc.nq hL3 np) np
    refine ⟨by show 2 ≤ sizeLine; decide, fun tu ntu => ?_⟩
    have kb4 := kb2.trans kb3
    refine k _ tu p zs l' (kb4.trans (KB.new ntu)) (kb4.free (Orc.nq hL4 ntu) ntu) upd_same np2 (kn ntu hp) (Orc.new hL4 ntu) (by omega) (hpm4.trans hpm) fun key A hx => hk4 key A (hk key hx)
/-! ### heaped -/
def spHeaped (P : Program) (w : World) (K : PySem.W.Frag) (mg : Str → Option Value) (base : Heap) : Sp := fun vs H Q _ => ∃ (O : Orc P w K mg base) (a : Addr) (xs : List V) (l : Lg), vs = [.ref a, .ref O.f] ∧
  Row K O.q H a xs ∧ O.Log l H ∧ O.All xs H ∧ xs.length ≤ 900 ∧ l.length + 2 * xs.length ≤ 80000 ∧
  ∀ H' p zs l', KB O.q H H' → H p = none → H' p = some (.lst zs) → O.Log l' H' → l'.length ≤ l.length + 2 * xs.length → zs.Perm xs → (∀ key, Mir.KeyA O.ans key → Mir.HeapOk key zs) → Q (.ref p) H'
def N_heaped : List Str := ["row", "order", "found", "place"]
theorem sc_heaped : FnScope ["row", "order", "found", "place"] ["row", "order"] (defScope st_heaped) := ⟨rfl, rfl, rfl, by decide +kernel, rfl, by decide +kernel, by decide +kernel⟩
theorem ok_heaped (d_heaped : Df K mg "heaped" st_heaped ["row", "order"]) (d_sunk : Df K mg "sunk" st_sunk ["row", "place", "order"]) (mLen : mg "len" = none) (mList : mg "list" = none) (mRange : mg "range" = none) : FnOk P w K mg base CX0 5 d_heaped.f d_heaped.fd ["row", "order"] (spHeaped P w K mg base) := by
  have G_sunk : FnOk P w K mg base CX0 4 d_sunk.f d_sunk.fd ["row", "place", "order"] (spSunk P w K mg base) := ok_sunk d_sunk mLen mList
  refine d_heaped.F.ok sc_heaped (fun vs H Q E h => ?_) (fun cdv A outer s H vs Q E hr h => ?_)
  · obtain ⟨O, a, xs, l, rfl, _⟩ := h
    rfl
  · obtain ⟨O, a, xs, l, rfl, hR, hL, dx, hz, hc, k⟩ := h
    have nd := sc_heaped.nd
    refine ⟨_, (pss_cons (ps_set (i := 2) nd rfl (Or.inl rfl) (pe_callTy call_list_of (by rfl) mList (by decide +kernel) (pa_cons (pv 0) pa_nil)))
  (pss_cons (ps_for PassesOwn.never rfl (pi_range3 rfl mRange (pa_cons (pe_op op_subE (pe_op op_fdivE (pe_len mLen (pv 0)) pe_int) pe_int) (pa_cons (pe_un un_neg pe_int) (pa_cons (pe_un un_neg pe_int) pa_nil)))) (pg_name (i := 3) nd rfl (Or.inl rfl))
    (pss_one (ps_set (i := 2) nd rfl (Or.inl rfl) (pe_cd (d := d_sunk) G_sunk (hr.mono (by decide)) (pa_cons (pv 2) (pa_cons (pv 3) (pa_cons (pv 1) pa_nil)))))))
  (pss_one (ps_ret (pv 2))))), ?_⟩
    refine ⟨_, rfl, a, xs, rfl, .inl hR.1, fun p0 n0 => ?_⟩
    have kb0 : KB O.q H (upd H p0 (.lst xs)) := KB.new n0
    have hL0 := Orc.new (o := .lst xs) hL n0
    have lv := Mir.lvs_le xs.length (xs.length / 2)
    refine ⟨_, rfl, a, xs, rfl, .inl (hR.kb kb0).1, _, _, ((xs.length / 2 : Nat) : Int), rfl, rfl, ⟨by decide, by decide⟩, (by show ((xs.length / 2 : Nat) : Int) = (xs.length : Int) / 2; omega), _, _, (((xs.length / 2 : Nat) : Int) - 1), rfl, rfl, rfl, _, rfl, _, rfl, (((xs.length / 2 : Nat) : Int) - 1), -1, -1, _, rfl, RgC.neg (by omega) (by omega) (by omega) (by omega), ?_⟩
    refine for_rangeC (lo := ((xs.length / 2 : Nat) : Int) - 1) (c := -1) (n := (((xs.length / 2 : Nat) : Int) - 1 - -1).toNat) (fun i σ H' => ∃ (fp : Addr) (v3 : Option V) (ys : List V) (l' : Lg), σ = [some (.ref a), some (.ref O.f), some (.ref fp), v3] ∧ KB O.q H H' ∧ H fp = none ∧ H' fp = some (.lst ys) ∧ O.Log l' H' ∧ ys.Perm xs ∧ l'.length + 2 * Mir.lvs xs.length (xs.length / 2 - i) ≤ l.length + 2 * Mir.lvs xs.length (xs.length / 2) ∧ ∀ key, Mir.KeyA O.ans key → Mir.HeapFrom key ys (xs.length / 2 - i))
      ⟨p0, none, xs, l, rfl, kb0, n0, upd_same, hL0, List.Perm.refl _, by rw [Nat.sub_zero]; exact Nat.le_refl _, fun key A => Mir.heap_nil _ (by omega)⟩ ?_ ?_
    · rintro i σ H1 hi ⟨fp, v3, ys, l', rfl, kb, nfp, hfp, hL', hpm, hl, hk⟩
      have hi' : i < xs.length / 2 := by omega
      obtain ⟨pl, epl⟩ : ∃ pl, pl = xs.length / 2 - 1 - i := ⟨_, rfl⟩
      rw [show (((xs.length / 2 : Nat) : Int) - 1 + (i : Nat) * -1) = ((pl : Nat) : Int) by omega]
      have ly := hpm.length_eq
      have e1 : xs.length / 2 - i = pl + 1 := by omega
      have e2 : xs.length / 2 - (i + 1) = pl := by omega
      rw [e1] at hl hk
      have e3 : Mir.lvs xs.length (pl + 1) = Mir.lvs xs.length pl + Nat.log2 (xs.length / (pl + 1)) := rfl
      have lv2 := Mir.lvs_le xs.length (pl + 1)
      have dy : O.All ys H1 := fun z hz' => (dx.tk kb.tk) z (hpm.subset hz')
      refine ⟨_, rfl, _, rfl, _, rfl, O, fp, ys, pl, l', rfl, Row.of hfp (Orc.nq hL nfp), hL', dy, by omega, by rw [ly]; omega, fun H3 p zs l2 kb3 np hp hL4 hc4 hpm4 hk4 => ?_⟩
      rw [ly] at hc4
      refine ⟨p, _, zs, l2, rfl, kb.trans kb3, kb.free (Orc.nq hL' np) np, hp, hL4, hpm4.trans hpm, by rw [e2]; omega, fun key A => ?_⟩
      rw [e2]
      exact hk4 key A (hk key A)
    · rintro σ H1 ⟨fp, v3, ys, l', rfl, kb, nfp, hfp, hL', hpm, hl, hk⟩
      refine ⟨_, rfl, ?_⟩
      have e1 : xs.length / 2 - (((xs.length / 2 : Nat) : Int) - 1 - -1).toNat = 0 := by omega
      rw [e1] at hl hk
      exact k H1 fp ys l' kb nfp hfp hL' (by omega) hpm hk
end
end Ord

namespace Ord
open PySem PySem.Spec PyProof.Rows L2 LamX
/-! ### a written log of questions -/
def LogAt (H : Hp) (ps : List V) (l : Lg) : Prop := Paired (fun v z => ∃ p, v = V.ref p ∧ H p = some (.tup [z.1, z.2])) ps l
theorem LogAt.tk {H H' : Hp} {ps : List V} {l : Lg} (h : LogAt H ps l) (k : TK H H') : LogAt H' ps l := Paired.mapP h fun v z ⟨p, e1, e2⟩ => ⟨p, e1, k _ _ e2⟩
theorem LogAt.length {H : Hp} {ps : List V} {l : Lg} (h : LogAt H ps l) : ps.length = l.length := Paired.length h
theorem Paired.snoc {α β : Type} {F : α → β → Prop} {x : α} {y : β} (h : F x y) : ∀ {xs : List α} {ys : List β}, Paired F xs ys → Paired F (xs ++ [x]) (ys ++ [y])
  | _, _, .nil => .cons h .nil
  | _, _, .cons r t => .cons r (Paired.snoc h t)
theorem LogAt.snoc {H : Hp} {ps : List V} {l : Lg} {p : Addr} {x y : V} (h : LogAt H ps l) (e : H p = some (.tup [x, y])) : LogAt H (ps ++ [.ref p]) (l ++ [(x, y)]) := Paired.snoc ⟨p, rfl, e⟩ h
theorem CellV.stay {q c : Addr} {H H' : Hp} {v : V} (h : CellV H c v) (s : Stay q H H') : CellV H' c v := by
  obtain ⟨o, u, e, r⟩ := h
  exact ⟨o, u, s _ _ e (.inr True.intro), r⟩
theorem ClosAt.stay {q : Addr} {cl : List (Str × Addr)} {fr : List Str} {ws : List (Option V)} {H H' : Hp} (h : ClosAt cl fr ws H) (s : Stay q H H') : ClosAt cl fr ws H' :=
  ⟨h.len, fun b hb => by
    obtain ⟨o, v, e, r⟩ := h.all b hb
    exact ⟨o, v, s _ _ e (.inr True.intro), r⟩, h.inj, fun i y e => by
    obtain ⟨c, hc, hv⟩ := h.has i y e
    exact ⟨c, hc, fun v ev => (hv v ev).stay s⟩⟩
theorem ClosAt.out {cl : List (Str × Addr)} {fr : List Str} {ws : List (Option V)} {H : Hp} (h : ClosAt cl fr ws H) {b : Addr} {o : HO} (e : H b = some o) (n : ∀ ob, o ≠ Fz ob) : b ∉ cl.map (·.2) := fun hb => by
  obtain ⟨ob, v, e', _⟩ := h.all b hb
  rw [e] at e'
  exact n ob (Option.some.inj e')
theorem tup_fz {xs : List V} (ob : Obj) : HO.tup xs ≠ Fz ob := fun z => by cases z
theorem lst_fz {xs : List V} (ob : Obj) : HO.lst xs ≠ Fz ob := fun z => by cases z
theorem Pr.strip {cl : List (Str × Addr)} {fr : List Str} {ws : List (Option V)} {H : Hp} (h : ClosAt cl fr ws H) {x : V} {e : Int × Int} (p : Pr H x e) : Pr (strip cl H) x e := by
  obtain ⟨a, e1, e2⟩ := p
  exact ⟨a, e1, by rw [strip_out (h.out e2 tup_fz)]; exact e2⟩
theorem LogAt.get {H : Hp} : ∀ {ps : List V} {l : Lg} {i : Nat} {x : V}, LogAt H ps l → ps[i]? = some x → ∃ z, l[i]? = some z ∧ ∃ t, x = V.ref t ∧ H t = some (.tup [z.1, z.2])
  | _, _, _, _, .nil, e => by simp at e
  | _, _, 0, _, .cons r _, e => by
    simp at e
    subst e
    exact ⟨_, rfl, r⟩
  | _, _, i + 1, _, .cons _ t, e => by
    obtain ⟨z, h1, h2⟩ := LogAt.get (i := i) t (by simpa using e)
    exact ⟨z, by simpa using h1, h2⟩
/-- the end of a lambda's call that writes a question down -/
theorem relend_ask {cl : List (Str × Addr)} {fr : List Str} {ws : List (Option V)} {H : Hp} {q t : Addr} {x y : V} {ps : List V} (C : ClosAt cl fr ws H) (hq : H q = some (.lst ps)) (ht : strip cl H t = none)
    (hf : ∀ b, b ∈ cl.map (·.2) → upd (upd (strip cl H) t (.tup [x, y])) q (.lst (ps ++ [.ref t])) b = Option.none) :
    KB q H (relend cl H (upd (upd (strip cl H) t (.tup [x, y])) q (.lst (ps ++ [.ref t])))) ∧ Stay q H (upd (relend cl H (upd (upd (strip cl H) t (.tup [x, y])) q (.lst (ps ++ [.ref t])))) q (.lst ps)) ∧
    relend cl H (upd (upd (strip cl H) t (.tup [x, y])) q (.lst (ps ++ [.ref t]))) q = some (.lst (ps ++ [.ref t])) ∧ relend cl H (upd (upd (strip cl H) t (.tup [x, y])) q (.lst (ps ++ [.ref t]))) t = some (.tup [x, y]) ∧ H t = Option.none := by
  have qc : q ∉ cl.map (·.2) := C.out hq lst_fz
  have hqs : strip cl H q = some (.lst ps) := by rw [strip_out qc]; exact hq
  have qt : q ≠ t := ne_of_none hqs ht
  have tc : t ∉ cl.map (·.2) := fun z => by
    have e := hf t z
    rw [upd_ne qt.symm, upd_same] at e
    cases e
  have ht' : H t = none := by rw [strip_out tc] at ht; exact ht
  have inR : ∀ b, b ∈ cl.map (·.2) → relend cl H (upd (upd (strip cl H) t (.tup [x, y])) q (.lst (ps ++ [.ref t]))) b = H b := fun b hb => if_pos hb
  have outR : ∀ b, b ∉ cl.map (·.2) → relend cl H (upd (upd (strip cl H) t (.tup [x, y])) q (.lst (ps ++ [.ref t]))) b = upd (upd (strip cl H) t (.tup [x, y])) q (.lst (ps ++ [.ref t])) b := fun b hb => if_neg hb
  have keep : ∀ b o, b ≠ q → H b = some o → relend cl H (upd (upd (strip cl H) t (.tup [x, y])) q (.lst (ps ++ [.ref t]))) b = some o := fun b o hb e => by
    by_cases hc : b ∈ cl.map (·.2)
    · rw [inR b hc]
      exact e
    · rw [outR b hc, upd_ne hb, upd_ne (ne_of_none e ht'), strip_out hc]
      exact e
  refine ⟨⟨keep, fun b xs e => keep b _ (fun z => by
    rw [z, hq] at e
    cases e) e⟩, fun b o e f => ?_, by rw [outR q qc, upd_same], by rw [outR t tc, upd_ne qt.symm, upd_same], ht'⟩
  by_cases hb : b = q
  · rw [hb, upd_same]
    rw [hb, hq] at e
    exact e
  · rw [upd_ne hb]
    exact keep b o hb e
/-! ### the order that writes down what it is asked -/
section
variable {P : Program} {w : World} {K : PySem.W.Frag} {mg : Str → Option Value} {base : Heap}
/-- the function at f, its code, its cells, the log at q -/
def AskLog (f q c' : Addr) (pm ctv : Value) (qn : Str) (params : Arguments) (body : Expr) (scope : Scope) (cl : List (Str × Addr)) (fr : List Str) (ws : List (Option V)) (l : Lg) (H : Hp) : Prop :=
  H f = some (Fz (PySem.W.kla_obj "<lambda>" qn params body scope cl pm c' ctv)) ∧ H c' = some (CodeO c' qn) ∧ ClosAt cl fr ws H ∧ ∃ qs, H q = some (.lst qs) ∧ LogAt H qs l
theorem codeO_fz {c : Addr} {q : Str} (ob : Obj) : CodeO c q ≠ Fz ob := fun z => by
  unfold CodeO at z
  cases z
def mkOrc {f q c' : Addr} {pm ctv : Value} {qn : Str} {params : Arguments} {body : Expr} {scope : Scope} {cl : List (Str × Addr)} {ps fr : List Str} {ws : List (Option V)} (ans : Lg → V → V → Int) (Dom : V → Hp → Prop) {t : TE}
    (S : NdefX.NScope (ps ++ fr) ps fr scope) (two : ps.length = 2) (hw : ws.length = fr.length)
    (hb : ∀ us : List Value, us.length = ps.length → bindArgs (PySem.W.kla_fn "<lambda>" qn params body scope cl pm (.ref c') ctv) ⟨us, []⟩ = pure (ps.zip us))
    (dom : ∀ {x : V} {H H' : Hp}, TK H H' → Dom x H → Dom x H')
    (B : ∀ (A : Around) (outer : List Env) (s : Shared) (H0 : Hp), Room 2 (A.deeper (NdefX.envF (lamNF qn params scope cl c') f s.heap.objs.size)) → PE (NdefX.ncx CX0 P w K mg base (ps ++ fr) (lamNF qn params scope cl c') f A outer s H0 E0).nox body t)
    (hq : ∀ (x y : V) (l : Lg) (qs : List V) (H : Hp) (Q : VK), H q = some (.lst qs) → LogAt H qs l → l.length < 100000 → Dom x H → Dom y H →
      (∀ a, H a = none → Q (.int (ans l x y)) (upd (upd H a (.tup [x, y])) q (.lst (qs ++ [.ref a])))) → t (some x :: some y :: ws) H Q) : Orc P w K mg base where
  f := f
  q := q
  ans := ans
  Log := AskLog f q c' pm ctv qn params body scope cl fr ws
  Dom := Dom
  isf := fun {l H} h => ⟨_, _, _, _, h.1⟩
  isq := fun {l H} h z => by
    obtain ⟨_, _, _, qs, e, _⟩ := h
    rw [z] at e
    cases e
  stay := fun {l H H'} s h => by
    obtain ⟨h1, h2, h3, qs, h4, h5⟩ := h
    exact ⟨s _ _ h1 (.inr True.intro), s _ _ h2 (.inr (by unfold CodeO; exact True.intro)), h3.stay s, qs, s _ _ h4 (.inl rfl), h5.tk s.tk⟩
  dom := dom
  run := by
    refine fnv_lam (ps := ps) (fr := fr) (N := ps ++ fr) (ws := ws) (pm := pm) (ctv := ctv) (c' := c') (q := qn) (params := params) (body := body) (scope := scope) (cl := cl) S hb (fun vs H Q h => ?_) fun A outer s H vs Q hr h => ⟨t, B A outer s _ hr, ?_⟩
    · obtain ⟨x, y, l, rfl, ⟨h1, h2, h3, _⟩, _⟩ := h
      exact ⟨two.symm, h1, h2, h3⟩
    · obtain ⟨x, y, l, rfl, ⟨h1, h2, h3, qs, h4, h5⟩, hl, dx, dy, hQ⟩ := h
      have qc := h3.out h4 lst_fz
      have hqs : strip cl H q = some (.lst qs) := by rw [strip_out qc]; exact h4
      have kS : TK H (strip cl H) := fun b xs e => by rw [strip_out (h3.out e tup_fz)]; exact e
      have es : NdefX.startF (ps ++ fr) [x, y] ws = some x :: some y :: ws := by
        unfold NdefX.startF
        rw [List.length_append, two, hw]
        simp
      rw [es]
      refine hq x y l qs (strip cl H) _ hqs (h5.tk kS) hl (dom kS dx) (dom kS dy) fun a ha hf => ?_
      obtain ⟨kb, st, e1, e2, e3⟩ := relend_ask h3 h4 ha hf
      have fq : f ≠ q := fun z => by
        rw [z, h4] at h1
        cases h1
      have cq : c' ≠ q := fun z => by
        rw [z, h4] at h2
        exact absurd (Option.some.inj h2).symm (by unfold CodeO; intro y; cases y)
      have cl3 : ClosAt cl fr ws (relend cl H (upd (upd (strip cl H) a (.tup [x, y])) q (.lst (qs ++ [.ref a])))) := by
        refine ⟨h3.len, fun b hb => ?_, h3.inj, fun i y e => ?_⟩
        · obtain ⟨o, v, e, r⟩ := h3.all b hb
          exact ⟨o, v, by rw [show relend cl H _ b = H b from if_pos hb]; exact e, r⟩
        · obtain ⟨c, hc, hv⟩ := h3.has i y e
          refine ⟨c, hc, fun v ev => ?_⟩
          obtain ⟨o, u, e4, r⟩ := hv v ev
          exact ⟨o, u, by rw [show relend cl H _ c = H c from if_pos (lookup_mem2 hc)]; exact e4, r⟩
      exact hQ _ kb ⟨kb.keep _ _ fq h1, kb.keep _ _ cq h2, cl3, _, e1, (h5.tk kb.tk).snoc e2⟩
end
end Ord

namespace Ord
open PySem PySem.Spec PyProof.Rows L2 LamX
section
variable {X : Cx} {σ : L2.St} {H1 H2 H3 : Hp} {q : Addr}
theorem Lent.same (L : Lent X σ H1 H2) : Same H1 H2 := fun _ _ e => L.keep e
theorem Lent.fzK (L : Lent X σ H1 H2) (hq : ∀ ob, H2 q ≠ some (Fz ob)) (k : KB q H2 H3) {b : Addr} (hb : b ∈ X.env.cells.map (·.2)) : ∃ o, H3 b = some (Fz o) := by
  obtain ⟨o, v, e, _⟩ := L.fz b hb
  exact ⟨o, k.keep b _ (fun z => hq o (by rw [← z]; exact e)) e⟩
theorem Lent.out3 (L : Lent X σ H1 H2) (hq : ∀ ob, H2 q ≠ some (Fz ob)) (k : KB q H2 H3) {b : Addr} {o : HO} (e : H3 b = some o) (n : ∀ ob, o ≠ Fz ob) : b ∉ X.env.cells.map (·.2) := fun hb => by
  obtain ⟨ob, e'⟩ := L.fzK hq k hb
  rw [e] at e'
  exact n ob (Option.some.inj e')
/-- what stood ahead of the call stands behind it -/
theorem Lent.kb (L : Lent X σ H1 H2) (k : KB q H2 H3) : KB q H1 (strip X.env.cells H3) := by
  have nc : ∀ b o, H1 b = some o → b ∉ X.env.cells.map (·.2) := fun b o e hb => by
    rw [L.none_ b hb] at e
    cases e
  exact ⟨fun b o n e => by rw [strip_out (nc b o e)]; exact k.keep b o n (L.keep e), fun b xs e => by rw [strip_out (nc b _ e)]; exact k.tk b xs (L.keep e)⟩
/-- what is found behind the call is there, but the cells -/
theorem Lent.at3 (L : Lent X σ H1 H2) (hq : ∀ ob, H2 q ≠ some (Fz ob)) (k : KB q H2 H3) {b : Addr} {o : HO} (e : H3 b = some o) (n : ∀ ob, o ≠ Fz ob) : strip X.env.cells H3 b = some o := by
  rw [strip_out (L.out3 hq k e n)]
  exact e
theorem Lent.tk3 (L : Lent X σ H1 H2) (hq : ∀ ob, H2 q ≠ some (Fz ob)) (k : KB q H2 H3) : TK H3 (strip X.env.cells H3) := fun b xs e => L.at3 hq k e tup_fz
/-- a new object was not there ahead of the call -/
theorem Lent.free1 (L : Lent X σ H1 H2) {p : Addr} (n : H2 p = none) : H1 p = none := by
  by_cases hb : p ∈ X.env.cells.map (·.2)
  · exact L.none_ p hb
  · rw [← L.out p hb]
    exact n
theorem lst_nfz {H : Hp} {q : Addr} {xs : List V} (e : H q = some (.lst xs)) (ob : Obj) : H q ≠ some (Fz ob) := fun z => by
  rw [e] at z
  cases z
/-- the cells that a lambda made here captured, lent -/
theorem Lent.clos (L : Lent X σ H1 H2) {scope : Scope} {fr : List Str} {js : List Nat} (hfree : ∀ y ∈ scope.names, y.2 = .free → X.env.scope.names.lookup y.1 = some .cell ∨ X.env.scope.names.lookup y.1 = some .free)
    (hfr : ∀ y ∈ fr, (y, NameKind.free) ∈ scope.names) (hjs : js.map (fun j => X.N[j]?) = fr.map some) : ClosAt (cloFrom X.env.cells scope.names []) fr (js.map (NdefX.slotAt σ)) H2 := by
  have hf : ∀ y ∈ scope.names, y.2 = .free → ∃ c, X.env.cells.lookup y.1 = some c := fun y hy e => L.has _ (hfree y hy e)
  refine ⟨?_, fun b hb => ?_, fun x y c e1 e2 => L.inj x y c (NdefX.clo_cm hf e1) (NdefX.clo_cm hf e2), fun i y e => ?_⟩
  · have q := congrArg List.length hjs
    rw [List.length_map, List.length_map] at q
    rw [List.length_map]
    exact q
  · obtain ⟨⟨x, c⟩, hm, e⟩ := List.mem_map.mp hb
    have e : c = b := e
    subst e
    rcases cloFrom_mem hm with hm | ⟨h1, h2⟩
    · cases hm
    · obtain ⟨c1, hc⟩ := hf _ h1 rfl
      have hc : X.env.cells.lookup x = some c1 := hc
      have e2 : c = c1 := by
        rw [h2, hc]
        rfl
      subst e2
      exact L.fz _ (lookup_mem2 hc)
  · have k := hfree (y, .free) (hfr y (List.mem_of_getElem? e)) rfl
    obtain ⟨c, hc⟩ := L.has y k
    refine ⟨c, NdefX.clo_has hf (hfr y (List.mem_of_getElem? e)) hc, fun v ev => ?_⟩
    have e2 : (js.map fun j => X.N[j]?)[i]? = some (some y) := by
      rw [hjs, List.getElem?_map, e]
      rfl
    rw [List.getElem?_map] at e2 ev
    cases ej : js[i]? with
    | none =>
      rw [ej] at e2
      cases e2
    | some j =>
      rw [ej] at e2 ev
      have hj : X.N[j]? = some y := Option.some.inj (show some (X.N[j]?) = some (some y) from e2)
      have hs : σ[j]? = some (some v) := NdefX.slotAt_some (Option.some.inj (show some (NdefX.slotAt σ j) = some (some v) from ev))
      obtain ⟨c', hc', hv⟩ := L.val j y v hj hs k
      rw [hc] at hc'
      cases hc'
      exact hv
/-- the log of the questions, at the call -/
theorem Lent.log {f c' : Addr} {pm ctv : Value} {qn : Str} {params : Arguments} {body : Expr} {scope : Scope} {fr : List Str} {js : List Nat} (L : Lent X σ H1 H2)
    (hfree : ∀ y ∈ scope.names, y.2 = .free → X.env.scope.names.lookup y.1 = some .cell ∨ X.env.scope.names.lookup y.1 = some .free) (hfr : ∀ y ∈ fr, (y, NameKind.free) ∈ scope.names) (hjs : js.map (fun j => X.N[j]?) = fr.map some)
    (f1 : H1 f = some (Fz (PySem.W.kla_obj "<lambda>" qn params body scope (cloFrom X.env.cells scope.names []) pm c' ctv))) (c1 : H1 c' = some (CodeO c' qn)) {l : Lg} {qs : List V} (h4 : H1 q = some (.lst qs)) (h5 : LogAt H1 qs l) :
    AskLog f q c' pm ctv qn params body scope (cloFrom X.env.cells scope.names []) fr (js.map (NdefX.slotAt σ)) l H2 :=
  ⟨L.keep f1, L.keep c1, L.clos hfree hfr hjs, qs, L.keep h4, h5.tk (Same.tk L.same)⟩
end
theorem Tabs.kb {T : List (Addr × Str)} {q : Addr} {H H' : Hp} (t : Tabs T H) (k : KB q H H') (hq : ∀ p ∈ T, p.1 ≠ q) (hc : ∀ c x, H c = some (CodeO c x) → c ≠ q) : Tabs T H' := fun p hp => by
  obtain ⟨ps, h1, h2, h3⟩ := t p hp
  refine ⟨ps, k.keep _ _ (hq p hp) h1, h2, fun pos cv e => ?_⟩
  obtain ⟨c, e1, e2⟩ := h3 pos cv e
  exact ⟨c, e1, k.keep _ _ (hc c _ e2) e2⟩
theorem code_ne {H : Hp} {q c : Addr} {x : Str} {xs : List V} (e : H q = some (.lst xs)) (h : H c = some (CodeO c x)) : c ≠ q := fun z => by
  rw [z, e] at h
  exact absurd (Option.some.inj h) (by unfold CodeO; intro y; cases y)
theorem tbl_ne {T : List (Addr × Str)} {H : Hp} {q : Addr} {xs : List V} (e : H q = some (.lst xs)) (t : Tabs T H) : ∀ p ∈ T, p.1 ≠ q := fun p hp z => by
  obtain ⟨ps, h1, _⟩ := t p hp
  rw [z, e] at h1
  cases h1
theorem Tabs.kb1 {T : List (Addr × Str)} {q : Addr} {H H' : Hp} {xs : List V} (t : Tabs T H) (e : H q = some (.lst xs)) (k : KB q H H') : Tabs T H' := Tabs.kb t k (tbl_ne e t) fun _ _ h => code_ne e h
theorem Tabs.same {T : List (Addr × Str)} {H H' : Hp} (t : Tabs T H) (s : Same H H') : Tabs T H' := t.ext s
/-- behind a lambda's making all but the tables stands -/
theorem ExtN.keep {H H' : Hp} (e : ExtN H H') {b : Addr} {o : HO} (h : H b = some o) (n : ∀ ps, o ≠ .tbl ps) : H' b = some o := e b o h n
theorem lst_tbl {xs : List V} (ps : Array Value) : HO.lst xs ≠ .tbl ps := fun z => by cases z
theorem tup_tbl {xs : List V} (ps : Array Value) : HO.tup xs ≠ .tbl ps := fun z => by cases z
theorem ExtN.tk {H H' : Hp} (e : ExtN H H') : TK H H' := fun b xs h => e b _ h tup_tbl
theorem ExtN.sq {K : PySem.W.Frag} {H H' : Hp} {a : Addr} {xs : List V} (e : ExtN H H') (h : SqL K H a xs) : SqL K H' a xs := by
  rcases h with (h | ⟨o, h⟩) | h
  · exact .inl (.inl (e _ _ h lst_tbl))
  · exact .inl (.inr ⟨o, e _ _ h fun ps z => by cases z⟩)
  · exact .inr h
end Ord
namespace Ord
open PySem PySem.Spec PyProof.Rows L2 LamX
section
variable {P : Program} {w : World} {K : PySem.W.Frag} {mg : Str → Option Value} {base : Heap}
/-- mkOrc, the lambda read off the heap -/
def orcAt {H1 : Hp} {f q c' : Addr} {pm ctv : Value} {qn : Str} {params : Arguments} {body : Expr} {scope : Scope} {cl : List (Str × Addr)} (_f1 : H1 f = some (Fz (PySem.W.kla_obj "<lambda>" qn params body scope cl pm c' ctv)))
    (ps fr : List Str) (ws : List (Option V)) (ans : Lg → V → V → Int) (Dom : V → Hp → Prop) {t : TE}
    (S : NdefX.NScope (ps ++ fr) ps fr scope) (two : ps.length = 2) (hw : ws.length = fr.length)
    (hb : ∀ us : List Value, us.length = ps.length → bindArgs (PySem.W.kla_fn "<lambda>" qn params body scope cl pm (.ref c') ctv) ⟨us, []⟩ = pure (ps.zip us))
    (dom : ∀ {x : V} {H H' : Hp}, TK H H' → Dom x H → Dom x H')
    (B : ∀ (A : Around) (outer : List Env) (s : Shared) (H0 : Hp), Room 2 (A.deeper (NdefX.envF (lamNF qn params scope cl c') f s.heap.objs.size)) → PE (NdefX.ncx CX0 P w K mg base (ps ++ fr) (lamNF qn params scope cl c') f A outer s H0 E0).nox body t)
    (hq : ∀ (x y : V) (l : Lg) (qs : List V) (H : Hp) (Q : VK), H q = some (.lst qs) → LogAt H qs l → l.length < 100000 → Dom x H → Dom y H →
      (∀ a, H a = none → Q (.int (ans l x y)) (upd (upd H a (.tup [x, y])) q (.lst (qs ++ [.ref a])))) → t (some x :: some y :: ws) H Q) : Orc P w K mg base :=
  mkOrc (f := f) (q := q) (c' := c') (pm := pm) (ctv := ctv) (qn := qn) (params := params) (body := body) (scope := scope) (cl := cl) (ps := ps) (fr := fr) (ws := ws) ans Dom S two hw hb dom B hq
/-- as Fun.ok, the code object told -/
theorem Fun.okc {x qual : Str} {st : Stmt} {f : Addr} {fd : FuncData} {N ps : List Str} {k : Nat} {sp : Sp} {c : Addr} (F : Fun K x qual st f fd) (hc : fd.code = .ref c) (S : FnScope N ps (defScope st)) (len : ∀ vs H Q E, sp vs H Q E → vs.length = ps.length)
    (hbody : ∀ (A : Around) (outer : List Env) (s : Shared) (H : Hp) (vs : List V) (Q : VK) (E : XK), Room k (A.deeper (envOfC qual (defScope st) s.heap.objs.size f (.ref c))) → sp vs H Q E →
      ∃ t, PSs (cxOf CX0 P w K mg base N qual (defScope st) f (.ref c) A outer s H E).nox (defBody st) t ∧ t { nx := fun _ H' => Q .non H', rt := Q } (start N vs) H) : FnOk P w K mg base CX0 (k + 1) f fd ps sp := by
  obtain ⟨oc, od, kV, doc, pm, an, cdv, ct, osl, rfl, lk, hcd⟩ := F.ex
  have e : cdv = .ref c := hc
  subst e
  refine fn_of lk hcd S len fun A outer s H vs Q E hr hsp => ?_
  obtain ⟨t, h, q⟩ := hbody A outer s H vs Q E hr hsp
  exact ⟨t, h.nox, q⟩
end
end Ord
namespace Ord
open PySem PySem.Spec PyProof.Rows L2 LamX
/-- behind a call with the cells lent: what is known of the heap, the heap a letter -/
theorem lentQ_of {X : Cx} {Q : VK} {v : V} {H3 : Hp} {F : Hp → Prop} (f : F (strip X.env.cells H3)) (h : ∀ H4, F H4 → Q v H4) : lentQ X Q v H3 := h _ f
end Ord
namespace Ord
open PySem PySem.Spec PyProof.Rows L2 LamX
/-- q is no place where the list at a is tracked -/
def Apart (K : PySem.W.Frag) (q a : Addr) (xs : List V) : Prop := a ≠ q ∨ ∀ H, SqL K H a xs
theorem Apart.new {K : PySem.W.Frag} {H : Hp} {q a : Addr} {xs : List V} (h : SqL K H a xs) (n : H q = none) : Apart K q a xs := by
  rcases h with (h | ⟨o, h⟩) | h
  · exact .inl (ne_of_none h n)
  · exact .inl (ne_of_none h n)
  · exact .inr fun _ => .inr h
theorem Apart.kb {K : PySem.W.Frag} {H H' : Hp} {q a : Addr} {xs : List V} (p : Apart K q a xs) (h : SqL K H a xs) (k : KB q H H') : SqL K H' a xs := by
  rcases p with p | p
  · exact sq_keep h fun o e => k.keep a o p e
  · exact p H'
theorem Apart.wr {K : PySem.W.Frag} {H : Hp} {q a : Addr} {xs : List V} {o : HO} (p : Apart K q a xs) (h : SqL K H a xs) : SqL K (upd H q o) a xs := by
  rcases p with p | p
  · exact sq_keep h fun u e => by rw [upd_ne p]; exact e
  · exact p _
end Ord
namespace Ord
open PySem PySem.Spec PyProof.Rows L2 LamX
section
variable {X : Cx} {σ : L2.St} {H1 H2 H3 : Hp} {q : Addr}
theorem Lent.fzN (L : Lent X σ H1 H2) (hq : H1 q ≠ none) (k : KB q H2 H3) {b : Addr} (hb : b ∈ X.env.cells.map (·.2)) : ∃ o, H3 b = some (Fz o) := by
  obtain ⟨o, v, e, _⟩ := L.fz b hb
  exact ⟨o, k.keep b _ (fun z => hq (by rw [← z]; exact L.none_ b hb)) e⟩
theorem Lent.at4 (L : Lent X σ H1 H2) (hq : H1 q ≠ none) (k : KB q H2 H3) {b : Addr} {o : HO} (e : H3 b = some o) (n : ∀ ob, o ≠ Fz ob) : strip X.env.cells H3 b = some o := by
  have hb : b ∉ X.env.cells.map (·.2) := fun hb => by
    obtain ⟨ob, e'⟩ := L.fzN hq k hb
    rw [e] at e'
    exact n ob (Option.some.inj e')
  rw [strip_out hb]
  exact e
theorem Lent.tk4 (L : Lent X σ H1 H2) (hq : H1 q ≠ none) (k : KB q H2 H3) : TK H3 (strip X.env.cells H3) := fun b xs e => L.at4 hq k e tup_fz
theorem some_nn {H : Hp} {b : Addr} {o : HO} (e : H b = some o) : H b ≠ none := fun z => by
  rw [e] at z
  cases z
end
/-! ### an order that writes nothing down -/
section
variable {P : Program} {w : World} {K : PySem.W.Frag} {mg : Str → Option Value} {base : Heap}
def AnsLog (f c' : Addr) (pm ctv : Value) (qn : Str) (params : Arguments) (body : Expr) (scope : Scope) (cl : List (Str × Addr)) (fr : List Str) (ws : List (Option V)) (_ : Lg) (H : Hp) : Prop :=
  H f = some (Fz (PySem.W.kla_obj "<lambda>" qn params body scope cl pm c' ctv)) ∧ H c' = some (CodeO c' qn) ∧ ClosAt cl fr ws H
def orcNo {H1 : Hp} {f c' : Addr} {pm ctv : Value} {qn : Str} {params : Arguments} {body : Expr} {scope : Scope} {cl : List (Str × Addr)} (_f1 : H1 f = some (Fz (PySem.W.kla_obj "<lambda>" qn params body scope cl pm c' ctv)))
    (ps fr : List Str) (ws : List (Option V)) (ans : V → V → Int) (Dom : V → Hp → Prop) {t : TE}
    (S : NdefX.NScope (ps ++ fr) ps fr scope) (two : ps.length = 2) (hw : ws.length = fr.length)
    (hb : ∀ us : List Value, us.length = ps.length → bindArgs (PySem.W.kla_fn "<lambda>" qn params body scope cl pm (.ref c') ctv) ⟨us, []⟩ = pure (ps.zip us))
    (dom : ∀ {x : V} {H H' : Hp}, TK H H' → Dom x H → Dom x H')
    (B : ∀ (A : Around) (outer : List Env) (s : Shared) (H0 : Hp), Room 2 (A.deeper (NdefX.envF (lamNF qn params scope cl c') f s.heap.objs.size)) → PE (NdefX.ncx CX0 P w K mg base (ps ++ fr) (lamNF qn params scope cl c') f A outer s H0 E0).nox body t)
    (hq : ∀ (x y : V) (H : Hp) (Q : VK), Dom x H → Dom y H → Q (.int (ans x y)) H → t (some x :: some y :: ws) H Q) : Orc P w K mg base where
  f := f
  q := f
  ans := fun _ => ans
  Log := AnsLog f c' pm ctv qn params body scope cl fr ws
  Dom := Dom
  isf := fun {l H} h => ⟨_, _, _, _, h.1⟩
  isq := fun {l H} h => some_nn h.1
  stay := fun {l H H'} s h => ⟨s _ _ h.1 (.inr True.intro), s _ _ h.2.1 (.inr (by unfold CodeO; exact True.intro)), h.2.2.stay s⟩
  dom := dom
  run := by
    refine fnv_lam (ps := ps) (fr := fr) (N := ps ++ fr) (ws := ws) (pm := pm) (ctv := ctv) (c' := c') (q := qn) (params := params) (body := body) (scope := scope) (cl := cl) S hb (fun vs H Q h => ?_) fun A outer s H vs Q hr h => ⟨t, B A outer s _ hr, ?_⟩
    · obtain ⟨x, y, l, rfl, ⟨h1, h2, h3⟩, _⟩ := h
      exact ⟨two.symm, h1, h2, h3⟩
    · obtain ⟨x, y, l, rfl, ⟨h1, h2, h3⟩, hl, dx, dy, hQ⟩ := h
      have kS : TK H (strip cl H) := fun b xs e => by rw [strip_out (h3.out e tup_fz)]; exact e
      have es : NdefX.startF (ps ++ fr) [x, y] ws = some x :: some y :: ws := by
        unfold NdefX.startF
        rw [List.length_append, two, hw]
        simp
      rw [es]
      refine hq x y (strip cl H) _ (dom kS dx) (dom kS dy) fun hf => ?_
      have e : relend cl H (strip cl H) = H := by
        funext b
        by_cases hb : b ∈ cl.map (·.2)
        · exact if_pos hb
        · exact (if_neg hb).trans (strip_out hb)
      rw [e]
      exact hQ H (KB.refl _ _) ⟨h1, h2, h3⟩
theorem Lent.ans {X : Cx} {σ : L2.St} {H1 H2 : Hp} {f c' : Addr} {pm ctv : Value} {qn : Str} {params : Arguments} {body : Expr} {scope : Scope} {fr : List Str} {js : List Nat} {l : Lg} (L : Lent X σ H1 H2)
    (hfree : ∀ y ∈ scope.names, y.2 = .free → X.env.scope.names.lookup y.1 = some .cell ∨ X.env.scope.names.lookup y.1 = some .free) (hfr : ∀ y ∈ fr, (y, NameKind.free) ∈ scope.names) (hjs : js.map (fun j => X.N[j]?) = fr.map some)
    (f1 : H1 f = some (Fz (PySem.W.kla_obj "<lambda>" qn params body scope (cloFrom X.env.cells scope.names []) pm c' ctv))) (c1 : H1 c' = some (CodeO c' qn)) :
    AnsLog f c' pm ctv qn params body scope (cloFrom X.env.cells scope.names []) fr (js.map (NdefX.slotAt σ)) l H2 := ⟨L.keep f1, L.keep c1, L.clos hfree hfr hjs⟩
end
/-! ### a log as data -/
def pd2 (e : (Int × Int) × (Int × Int)) : PyData := .tuple [pd e.1, pd e.2]
def cc2 (c : V → Int × Int) (z : V × V) : (Int × Int) × (Int × Int) := (c z.1, c z.2)
theorem dp_log {K : PySem.W.Frag} {H : Hp} {c : V → Int × Int} : ∀ {ps : List V} {l : Lg}, LogAt H ps l → (∀ z ∈ l, El c z.1 H ∧ El c z.2 H) → DpAll K H ps (l.map fun z => pd2 (cc2 c z))
  | _, _, .nil, _ => .nil
  | _, _, .cons r t, h => by
    obtain ⟨p, rfl, e⟩ := r
    have hz := h _ List.mem_cons_self
    exact .cons (.tup (SqT.of e) (.cons (dp_el hz.1.1) (.cons (dp_el hz.2.1) .nil))) (dp_log t fun z hz => h z (List.mem_cons_of_mem _ hz))
theorem canLay_pd2 (e : (Int × Int) × (Int × Int)) : (pd2 e).canLay0 = true := by
  unfold pd2
  rw [PyData.canLay0, PyData.canLayAll0, PyData.canLayAll0, PyData.canLayAll0, canLay_pd, canLay_pd]
  rfl
theorem depth_pd2 (e : (Int × Int) × (Int × Int)) : (pd2 e).depth ≤ 8 := by
  have h1 := depth_pd e.1
  have h2 := depth_pd e.2
  unfold pd2
  rw [PyData.depth, PyData.depthAll, PyData.depthAll, PyData.depthAll]
  omega
theorem shaped_log {α : Type} (g : α → (Int × Int) × (Int × Int)) (xs : List α) : SeqAt.shaped (.list (xs.map fun x => pd2 (g x))) = true := by
  have a : ∀ xs : List α, PyData.canLayAll0 (xs.map fun x => pd2 (g x)) = true ∧ PyData.depthAll (xs.map fun x => pd2 (g x)) ≤ 8 := by
    intro xs
    induction xs with
    | nil => exact ⟨rfl, by simp [PyData.depthAll]⟩
    | cons x xs ih =>
      have h1 := depth_pd2 (g x)
      rw [List.map_cons, PyData.canLayAll0, PyData.depthAll, ih.1, canLay_pd2]
      refine ⟨rfl, ?_⟩
      have := ih.2
      omega
  refine shaped_of (by rw [PyData.canLay0]; exact (a xs).1) ?_
  rw [PyData.depth]
  have := (a xs).2
  omega
theorem eqv_log {α β : Type} (g : α → (Int × Int) × (Int × Int)) (g' : β → (Int × Int) × (Int × Int)) (xs : List α) (ys : List β) : PyData.eqv (.list (xs.map fun x => pd2 (g x))) (.list (ys.map fun x => pd2 (g' x))) = decide (xs.map g = ys.map g') := by
  have e2 : ∀ a b, PyData.eqv (pd2 a) (pd2 b) = decide (a = b) := fun a b => by
    unfold pd2
    rw [PyData.eqv, PyData.eqvAll, PyData.eqvAll, PyData.eqvAll, eqv_pd, eqv_pd]
    obtain ⟨a1, a2⟩ := a
    obtain ⟨b1, b2⟩ := b
    by_cases h1 : a1 = b1
    · by_cases h2 : a2 = b2
      · simp [h1, h2]
      · simp [h1, h2]
    · simp [h1]
  rw [PyData.eqv]
  induction xs generalizing ys with
  | nil => cases ys with
    | nil => rw [List.map_nil, List.map_nil, List.map_nil, PyData.eqvAll]; simp
    | cons y ys => rw [List.map_nil, List.map_cons, PyData.eqvAll]; simp
  | cons x xs ih => cases ys with
    | nil => rw [List.map_cons, List.map_nil, PyData.eqvAll]; simp
    | cons y ys =>
      rw [List.map_cons, List.map_cons, PyData.eqvAll, e2, ih]
      by_cases h1 : g x = g' y
      · by_cases h2 : xs.map g = ys.map g'
        · simp [h1, h2]
        · simp [h1, h2]
      · simp [h1]
end Ord

namespace Ord
open PySem PySem.Spec PyProof.Rows L2 LamX
/-- what stands from call to call: the order with its log, lists, elements -/
structure Held (q f c' : Addr) (ob : Obj) (qn : Str) (ps : List (Addr × List V)) (es : List V) (c : V → Int × Int) (l : Lg) (H : Hp) : Prop where
  hq : ∃ qs, H q = some (.lst qs) ∧ LogAt H qs l
  hf : H f = some (Fz ob)
  hc : H c' = some (CodeO c' qn)
  ls : ∀ p ∈ ps, H p.1 = some (.lst p.2) ∧ p.1 ≠ q
  el : Els c es H
variable {q f c' : Addr} {ob : Obj} {qn : Str} {ps : List (Addr × List V)} {es : List V} {c : V → Int × Int} {l l' : Lg} {H H' : Hp}
theorem Held.same (h : Held q f c' ob qn ps es c l H) (s : Same H H') : Held q f c' ob qn ps es c l H' := by
  obtain ⟨qs, h1, h2⟩ := h.hq
  exact ⟨⟨qs, s _ _ h1, h2.tk (Same.tk s)⟩, s _ _ h.hf, s _ _ h.hc, fun p hp => ⟨s _ _ (h.ls p hp).1, (h.ls p hp).2⟩, h.el.tk (Same.tk s)⟩
theorem Held.put (h : Held q f c' ob qn ps es c l H) {p : Addr} {zs : List V} (e : H p = some (.lst zs)) (n : p ≠ q) : Held q f c' ob qn ((p, zs) :: ps) es c l H :=
  ⟨h.hq, h.hf, h.hc, fun r hr => by
    rcases List.mem_cons.mp hr with z | z
    · rw [z]; exact ⟨e, n⟩
    · exact h.ls r z, h.el⟩
theorem Held.less {ps' : List (Addr × List V)} (h : Held q f c' ob qn ps es c l H) (s : ∀ p ∈ ps', p ∈ ps) : Held q f c' ob qn ps' es c l H := ⟨h.hq, h.hf, h.hc, fun r hr => h.ls r (s r hr), h.el⟩
theorem Held.nq (h : Held q f c' ob qn ps es c l H) {p : Addr} (n : H p = none) : p ≠ q := fun z => by
  obtain ⟨qs, h1, _⟩ := h.hq
  rw [z, h1] at n
  cases n
theorem Held.wr (h : Held q f c' ob qn ps es c l H) {qs : List V} {l' : Lg} (n : LogAt H qs l') : Held q f c' ob qn ps es c l' (upd H q (.lst qs)) := by
  obtain ⟨q0, h1, _⟩ := h.hq
  have k : TK H (upd H q (.lst qs)) := TK.wr h1 nf_lst
  have fq : f ≠ q := fun z => by
    have e := h.hf
    rw [z, h1] at e
    cases e
  have cq : c' ≠ q := code_ne h1 h.hc
  exact ⟨⟨qs, upd_same, n.tk k⟩, (upd_ne fq).trans h.hf, (upd_ne cq).trans h.hc, fun p hp => ⟨(upd_ne (h.ls p hp).2).trans (h.ls p hp).1, (h.ls p hp).2⟩, h.el.tk k⟩
theorem Held.lent {X : Cx} {σ : L2.St} {H8 H9 H10 : Hp} (h : Held q f c' ob qn ps es c l H8) (L : Lent X σ H8 H9) (kb : KB q H9 H10) (n : ∃ qs, H10 q = some (.lst qs) ∧ LogAt H10 qs l') : Held q f c' ob qn ps es c l' (strip X.env.cells H10) := by
  obtain ⟨q0, h1, _⟩ := h.hq
  obtain ⟨qs, h2, h3⟩ := n
  have nfz := lst_nfz (L.keep h1)
  have kbF := L.kb kb
  have fq : f ≠ q := fun z => by
    have e := h.hf
    rw [z, h1] at e
    cases e
  have cq : c' ≠ q := code_ne h1 h.hc
  exact ⟨⟨qs, L.at3 nfz kb h2 lst_fz, h3.tk (L.tk3 nfz kb)⟩, kbF.keep _ _ fq h.hf, kbF.keep _ _ cq h.hc, fun p hp => ⟨kbF.keep _ _ (h.ls p hp).2 (h.ls p hp).1, (h.ls p hp).2⟩, h.el.tk kbF.tk⟩
theorem Held.at3 {X : Cx} {σ : L2.St} {H8 H9 H10 : Hp} (h : Held q f c' ob qn ps es c l H8) (L : Lent X σ H8 H9) (kb : KB q H9 H10) {p : Addr} {o : HO} (e : H10 p = some o) (n : ∀ ob, o ≠ Fz ob) : strip X.env.cells H10 p = some o := by
  obtain ⟨q0, h1, _⟩ := h.hq
  exact L.at3 (lst_nfz (L.keep h1)) kb e n
theorem Held.all {X : Cx} {σ : L2.St} {H8 H9 : Hp} (h : Held q f c' ob qn ps es c l H8) (L : Lent X σ H8 H9) {xs : List V} (s : ∀ x ∈ xs, x ∈ es) : ∀ x ∈ xs, El c x H9 := fun x hx => (h.el x (s x hx)).tk (Same.tk L.same)
/-- two rows as data -/
theorem shaped_rows2 {α : Type} (g : α → Int × Int) (xs ys : List α) : SeqAt.shaped (.list [.list (xs.map fun x => pd (g x)), .list (ys.map fun x => pd (g x))]) = true := by
  have h1 := depthAll_pd g xs
  have h2 := depthAll_pd g ys
  refine shaped_of (by rw [PyData.canLay0, PyData.canLayAll0, PyData.canLayAll0, PyData.canLayAll0, PyData.canLay0, PyData.canLay0, canLayAll_pd, canLayAll_pd]; rfl) ?_
  rw [PyData.depth, PyData.depthAll, PyData.depthAll, PyData.depthAll, PyData.depth, PyData.depth]
  omega
theorem eqv_rows2 {α : Type} (g : α → Int × Int) (xs ys : List α) : PyData.eqv (.list [.list (xs.map fun x => pd (g x)), .list (ys.map fun x => pd (g x))]) (.list [.list (xs.map fun x => pd (g x)), .list (ys.map fun x => pd (g x))]) = true := by
  rw [PyData.eqv, PyData.eqvAll, PyData.eqvAll, PyData.eqvAll, eqv_row, eqv_row]
  simp
end Ord
namespace Ord
open PySem PySem.Spec PyProof.Rows L2 LamX
/-- the object and its name, as letters -/
theorem held_ex {q f c' : Addr} {ob : Obj} {qn : Str} {ps : List (Addr × List V)} {es : List V} {c : V → Int × Int} {l : Lg} {H : Hp} (h : Held q f c' ob qn ps es c l H) : ∃ ob' qn', ob' = ob ∧ qn' = qn ∧ Held q f c' ob' qn' ps es c l H := ⟨_, _, rfl, rfl, h⟩
end Ord

set_option pp.deepTerms false
set_option pp.maxSteps 1500
namespace Ord
open PySem PySem.Spec PyProof.Rows L2 LamX
theorem Els.sub {c : V → Int × Int} {xs ys : List V} {H : Hp} (h : Els c ys H) (s : ∀ x ∈ xs, x ∈ ys) : Els c xs H := fun x hx => h x (s x hx)
abbrev kyc (way : Int) (c : V → Int × Int) : V → Int := fun x => Mir.keyI way (c x)
/-- sorted rows of the same contents -/
theorem sorted_eq {c : V → Int × Int} {xs ys us ws : List V} (h1 : SrtO.Srtd (ltP c) us) (h2 : SrtO.Stb (ltP c) us xs) (h3 : SrtO.Srtd (ltP c) ws) (h4 : SrtO.Stb (ltP c) ws ys) (p : xs.Perm ys) : us.map c = ws.map c := by
  refine List.Perm.eq_of_pairwise (le := fun a b => SrtO.lexB b a = false) (fun a b _ _ h5 h6 => ?_) (List.pairwise_map.mpr h1) (List.pairwise_map.mpr h3) (((h2.perm.trans p).trans h4.perm.symm).map c)
  have h7 := SrtO.lexB_no.mp h5
  have h8 := SrtO.lexB_no.mp h6
  refine Prod.ext ?_ ?_ <;> omega
/-- behind the making of a lambda and a lent call, the log new -/
theorem ext_after {H H2 H8 H11 : Hp} {q : Addr} {o : HO} (nq : H q = none) (s : Same (upd H q o) H2) (ext : ExtN H2 H8) (kb : KB q H8 H11) : ExtN H H11 := fun b u e n => kb.keep b u (ne_of_none e nq) (ext b u (s b u ((upd_ne (ne_of_none e nq)).trans e)) n)
theorem ExtN.trans {H H1 H2 : Hp} (a : ExtN H H1) (b : ExtN H1 H2) : ExtN H H2 := fun c o e n => b c o (a c o e n) n
theorem ExtN.of_same {H H1 : Hp} (s : Same H H1) : ExtN H H1 := fun c o e _ => s c o e
def qlook : Str := "_law_looked.<locals>.<lambda>"
def qpush : Str := "_law_pushed.<locals>.<lambda>"
def qpop : Str := "_law_popped.<locals>.<lambda>"
def qlam : Str := "law.<locals>.<lambda>"
section
variable {P : Program} {w : World} {K : PySem.W.Frag} {mg : Str → Option Value} {base : Heap} {T : List (Addr × Str)}
/-! ### _law_is_heap -/
def N__law_is_heap : List Str := ["_law_row_here", "_law_way", "_law_k"]
theorem sc__law_is_heap : FnScope ["_law_row_here", "_law_way", "_law_k"] ["_law_row_here", "_law_way"] (defScope st__law_is_heap) := ⟨rfl, rfl, rfl, by decide +kernel, rfl, by decide +kernel, by decide +kernel⟩
def spLawHeap (K : PySem.W.Frag) : Sp := fun vs H Q _ => ∃ (a : Addr) (xs : List V) (way : Int) (c : V → Int × Int), vs = [.ref a, .int way] ∧ SqL K H a xs ∧ Els c xs H ∧ xs.length ≤ 500 ∧
  ∀ H' b, Same H H' → (b = true ↔ Mir.HeapOk (kyc way c) xs) → Q (.bl b) H'
theorem ok_law_is_heap (d__law_is_heap : Df K mg "_law_is_heap" st__law_is_heap ["_law_row_here", "_law_way"]) (d__law_answer : Df K mg "_law_answer" st__law_answer ["_law_way", "_law_one", "_law_other"]) (mLen : mg "len" = none) (mInt : mg "int" = none) (mAbs : mg "abs" = none) (mRange : mg "range" = none) (mAll : mg "all" = none) : FnOk P w K mg base CX0 2 d__law_is_heap.f d__law_is_heap.fd ["_law_row_here", "_law_way"] (spLawHeap K) := by
  have G__law_answer : FnOk P w K mg base CX0 1 d__law_answer.f d__law_answer.fd ["_law_way", "_law_one", "_law_other"] spAnswer := ok_answer d__law_answer mInt mAbs
  refine d__law_is_heap.F.ok sc__law_is_heap (fun vs H Q E h => ?_) (fun cdv A outer s H vs Q E hr h => ?_)
  · obtain ⟨a, xs, way, c, rfl, _⟩ := h
    rfl
  · obtain ⟨a, xs, way, c, rfl, hS, hE, hz, hQ⟩ := h
    have nd := sc__law_is_heap.nd
    refine ⟨_, (pss_one (ps_ret (pe_callB (cr_all rfl) (by rfl) mAll (by decide +kernel) (pa_cons (pe_lc (own := [("_law_k", 2)]) (g := gName 2) rfl nd (pi_range2 (by rfl) mRange (pa_cons pe_int (pa_cons (pe_len mLen (pv 0)) pa_nil))) (blkOk_by (own := [("_law_k", 2)]) (N := N__law_is_heap) (sc := defScope st__law_is_heap) (by decide +kernel)) (fun _ _ _ _ _ => pg_name (i := 2) nd rfl (Or.inl rfl)) (fun _ _ _ _ _ => pts_nil) (fun _ _ _ _ _ => (pe_cmpR op_le (pe_cd (d := d__law_answer) G__law_answer (hr.mono (by decide)) (pa_cons (pv 1) (pa_cons (pe_ix (ix_listK (K := K)) (pv 0) (pe_op op_fdivE (pe_op op_subE (pv 2) pe_int) pe_int) (fun _ _ => rfl)) (pa_cons (pe_ix (ix_listK (K := K)) (pv 0) (pv 2) (fun _ _ => rfl)) pa_nil)))) pe_int (nomark _)))) pa_nil)))), ?_⟩
    refine ⟨_, rfl, a, xs, rfl, .inl hS, (1 : Int), (xs.length : Int), rfl, ⟨by omega, by omega, by omega, by omega⟩, fun D hD => ?_⟩
    refine lc_range (lo := 1) (n := ((xs.length : Int) - 1).toNat) (fun i H3 => ∃ bs : List Bool, Same H H3 ∧ H3 D = some (.lst (bs.map V.bl)) ∧ bs.length = i ∧ (bs.all id = true ↔ ∀ (j : Nat) (x y : V), 1 ≤ j → j ≤ i → xs[(j - 1) / 2]? = some x → xs[j]? = some y → kyc way c x ≤ kyc way c y)) ⟨[], Same.new hD, upd_same, rfl, ⟨fun _ j x y h1 h2 => by omega, fun _ => rfl⟩⟩ ?_ ?_
    · rintro i H3 hi ⟨bs, s3, h3, hl, hb⟩
      rw [show ((1 : Int) + (i : Nat)) = ((i + 1 : Nat) : Int) by omega]
      obtain ⟨x, ex⟩ : ∃ x, xs[i / 2]? = some x := ⟨_, List.getElem?_eq_getElem (by omega)⟩
      obtain ⟨y, ey⟩ : ∃ y, xs[i + 1]? = some y := ⟨_, List.getElem?_eq_getElem (by omega)⟩
      have hx := (hE x (List.mem_of_getElem? ex)).tk (Same.tk s3)
      have hy := (hE y (List.mem_of_getElem? ey)).tk (Same.tk s3)
      refine ⟨rfl, ?_⟩
      refine ⟨_, rfl, _, rfl, _, rfl, _, _, (i : Int), rfl, rfl, (by show (i : Int) = ((i + 1 : Nat) : Int) - 1; omega), _, _, ((i / 2 : Nat) : Int), rfl, rfl, ⟨by decide, by decide⟩, (by show ((i / 2 : Nat) : Int) = (i : Int) / 2; omega), a, xs, _, x, rfl, rfl, s3.seq hS, atI_nat ex, _, rfl, _, rfl, a, xs, _, y, rfl, rfl, s3.seq hS, atI_nat ey, way, x, y, c x, c y, rfl, hx.1, hy.1, hx.2.1, hy.2.1, ?_⟩
      refine ⟨_, _, rfl, rfl, ?_⟩
      have ea : Mir.ansI way (c x) (c y) ≤ 0 ↔ kyc way c x ≤ kyc way c y := by
        have := (Mir.ansI_pos way (c x) (c y)).1
        show _ ↔ Mir.keyI way (c x) ≤ Mir.keyI way (c y)
        omega
      refine ⟨bs.map V.bl, h3, small1000 (by rw [List.length_map]; omega), bs ++ [decide (Mir.ansI way (c x) (c y) ≤ 0)], fun b o e => ?_, ?_, by rw [List.length_append, hl]; rfl, ?_⟩
      · rw [upd_ne (ne_of_none e hD)]
        exact s3 _ _ e
      · rw [upd_same, List.map_append]
        rfl
      · rw [List.all_append, Bool.and_eq_true, hb]
        simp only [List.all_cons, List.all_nil, id, Bool.and_true, decide_eq_true_eq]
        rw [ea]
        refine ⟨fun ⟨h1, h2⟩ j u v h4 h5 hu hv => ?_, fun h => ⟨fun j u v h4 h5 => h j u v h4 (by omega), h (i + 1) x y (by omega) (Nat.le_refl _) (by rw [Nat.add_sub_cancel]; exact ex) ey⟩⟩
        by_cases e : j = i + 1
        · rw [e] at hu hv
          rw [Nat.add_sub_cancel, ex] at hu
          rw [ey] at hv
          cases hu
          cases hv
          exact h2
        · exact h1 j u v h4 (by omega) hu hv
    · rintro H3 ⟨bs, s3, h3, hl, hb⟩
      refine ⟨D, bs, rfl, SqL.of h3, ?_⟩
      refine hQ _ _ s3 (hb.trans ⟨fun h k x y h1 _ hx hy => ?_, fun h j x y h1 _ => h j x y h1 (Nat.zero_le _)⟩)
      have := (List.getElem?_eq_some_iff.mp hy).1
      exact h k x y h1 (by omega) hx hy
/-! ### _law_looked -/
def N__law_looked : List Str := ["_law_row_here", "_law_way", "_law_asked", "_law_told"]
theorem sc__law_looked : FnScope ["_law_row_here", "_law_way", "_law_asked", "_law_told"] ["_law_row_here", "_law_way"] (defScope st__law_looked) := ⟨rfl, rfl, rfl, by decide +kernel, rfl, by decide +kernel, by decide +kernel⟩
def spLooked (K : PySem.W.Frag) (T : List (Addr × Str)) : Sp := fun vs H Q _ => ∃ (a : Addr) (xs : List V) (way : Int) (c : V → Int × Int), vs = [.ref a, .int way] ∧ H a = some (.lst xs) ∧ Els c xs H ∧ xs.length ≤ 500 ∧ Tabs T H ∧
  ∀ H', ExtN H H' → Tabs T H' → Q (.bl true) H'
theorem ok_looked {cd Pt : Addr} (d__law_looked : Df K mg "_law_looked" st__law_looked ["_law_row_here", "_law_way"]) (d_is_heap : Df K mg "is_heap" st_is_heap ["row", "order"]) (d__law_is_heap : Df K mg "_law_is_heap" st__law_is_heap ["_law_row_here", "_law_way"]) (d__law_ask : Df K mg "_law_ask" st__law_ask ["_law_asked", "_law_way", "_law_one", "_law_other"]) (d__law_answer : Df K mg "_law_answer" st__law_answer ["_law_way", "_law_one", "_law_other"]) (mLen : mg "len" = none) (mInt : mg "int" = none) (mAbs : mg "abs" = none) (mMax : mg "max" = none) (mRange : mg "range" = none) (mAll : mg "all" = none) (mIsi : mg "isinstance" = none) (mBool : mg "bool" = none)
    (TB : TabB base mg cd Pt) (hc : d__law_looked.fd.code = .ref cd) (hm : (Pt, qlook) ∈ T) (hu : ∀ p ∈ T, p.1 = Pt → p.2 = qlook) : FnOk P w K mg base CX0 5 d__law_looked.f d__law_looked.fd ["_law_row_here", "_law_way"] (spLooked K T) := by
  have G__law_ask : FnOk P w K mg base CX0 2 d__law_ask.f d__law_ask.fd ["_law_asked", "_law_way", "_law_one", "_law_other"] spAskK := ok_ask d__law_ask d__law_answer mInt mAbs
  have G__law_is_heap : FnOk P w K mg base CX0 2 d__law_is_heap.f d__law_is_heap.fd ["_law_row_here", "_law_way"] (spLawHeap K) := ok_law_is_heap d__law_is_heap d__law_answer mLen mInt mAbs mRange mAll
  have G_is_heap : FnOk P w K mg base CX0 4 d_is_heap.f d_is_heap.fd ["row", "order"] (spIsHeap P w K mg base) := ok_is_heap d_is_heap mLen mRange
  refine Fun.okc d__law_looked.F hc sc__law_looked (fun vs H Q E h => ?_) (fun A outer s H vs Q E hr h => ?_)
  · obtain ⟨a, xs, way, c, rfl, _⟩ := h
    rfl
  · obtain ⟨a, xs, way, cc, rfl, ha, hE, hz, hT, hQ⟩ := h
    have nd := sc__law_looked.nd
    obtain ⟨X, eX⟩ : ∃ X, X = (cxOf CX0 P w K mg base N__law_looked "_law_looked" (defScope st__law_looked) d__law_looked.f (.ref cd) A outer s H E).nox := ⟨_, rfl⟩
    have un : UniqC X.env.cells := by
      rw [eX]
      exact uniq_cells (by decide +kernel)
    have hfn : ∀ x, X.fn x = true := by
      rw [eX]
      exact fun _ => rfl
    subst eX
    refine ⟨_, (pss_cons (ps_set (i := 2) nd rfl (Or.inr rfl) (pe_lst pa_nil))
  (pss_cons (ps_set (i := 3) nd rfl (Or.inl rfl) (pe_cdLent (d := d_is_heap) G_is_heap (hr.mono (by decide)) un hfn (pa_cons (pv 0) (pa_cons (pe_lam (T := T) (q := qlook) (show ("_law_looked.<locals>." : Str) ++ "<lambda>" = qlook by decide +kernel) TB rfl hm hu rfl (NdefX.ndef_free (sc := defScope st__law_looked) (fr := ["_law_asked", "_law_way"]) (by decide +kernel))) pa_nil))))
  (pss_one (ps_ret (pe_and (pe_cmpR op_eq (pv 3) (pe_cd (d := d__law_is_heap) G__law_is_heap (hr.mono (by decide)) (pa_cons (pv 0) (pa_cons (pv 1) pa_nil))) (nomark _)) (pe_and (pe_callB call_isi (by rfl) mIsi (by decide +kernel) (pa_cons (pv 3) (pa_cons (pe_bltn (v := .ty "bool") (by rfl) mBool (by decide +kernel) rfl) pa_nil))) (pe_one (pe_cmpR op_le (pe_len mLen (pv 2)) (pe_callB (call_max2 rfl) (by rfl) mMax (by decide +kernel) (pa_cons pe_int (pa_cons (pe_op op_subE (pe_len mLen (pv 0)) pe_int) pa_nil))) (nomark _))))))))), ?_⟩
    refine ⟨Nat.zero_le _, fun q nq => ?_⟩
    have sQ := Same.new (o := .lst []) nq
    have hq0 : upd H q (.lst []) q = some (.lst []) := upd_same
    have aq : a ≠ q := ne_of_none ha nq
    refine ⟨_, rfl, Tabs.same hT sQ, fun f c' pm ctv H8 ext nn T8 f0 f8 c8 => ?_⟩
    intro H9 L
    have hq8 : H8 q = some (.lst []) := ext _ _ hq0 lst_tbl
    have ha8 : H8 a = some (.lst xs) := ext _ _ (sQ _ _ ha) lst_tbl
    have hE8 : Els cc xs H8 := (hE.tk (Same.tk sQ)).tk (ExtN.tk ext)
    let O : Orc P w K mg base := orcAt f8 ["_law_one", "_law_other"] ["_law_asked", "_law_way"] [some (.ref q), some (.int way)] (fun _ x y => Mir.ansI way (cc x) (cc y)) (El cc) (NdefX.nscope_by (by decide +kernel)) rfl rfl
      (fun us hl => match us, hl with | [_, _], _ => rfl) (fun k h => h.tk k)
      (fun A outer s H0 hr => pe_cd (d := d__law_ask) G__law_ask hr (pa_cons (pv 2) (pa_cons (pv 3) (pa_cons (pv 0) (pa_cons (pv 1) pa_nil)))))
      (fun x y l qs H Q h1 h2 h3 dx dy hQ => ⟨_, rfl, _, rfl, _, rfl, _, rfl, q, way, x, y, cc x, cc y, qs, rfl, h1, by have := h2.length; omega, dx.1, dy.1, dx.2.1, dy.2.1, hQ⟩)
    have kA : Mir.KeyA O.ans (kyc way cc) := Mir.keyA_of way cc
    refine ⟨O, a, xs, [], rfl, Row.of (L.keep ha8) aq, L.log (js := [2, 1]) (NdefX.ndef_free (sc := defScope st__law_looked) (fr := ["_law_asked", "_law_way"]) (by decide +kernel)) (NdefX.ndef_fr (sc := defScope st__law_looked) (fr := ["_law_asked", "_law_way"]) (by decide +kernel)) rfl f8 c8 hq8 .nil, fun x hx => (hE8 x hx).tk (Same.tk L.same), by omega, by simp only [List.length_nil]; omega, fun H10 b l1 kb hL hl hk => ?_⟩
    have hk := hk _ kA
    obtain ⟨_, _, _, qs, hq10, lg10⟩ := hL
    have kbF := L.kb kb
    refine lentQ_of (F := fun H11 => ExtN H H11 ∧ Tabs T H11 ∧ (∃ qs, H11 q = some (.lst qs) ∧ qs.length = l1.length) ∧ H11 a = some (.lst xs) ∧ Els cc xs H11) ⟨ext_after nq (Same.refl _) ext kbF, Tabs.kb1 T8 hq8 kbF, ⟨qs, L.at3 (lst_nfz (L.keep hq8)) kb hq10 lst_fz, lg10.length⟩, kbF.keep _ _ aq ha8, hE8.tk kbF.tk⟩ fun Z1 ⟨hX, hT1, ⟨qs1, hq1, lq1⟩, ha1, hE1⟩ => ?_
    clear hq10 lg10 kbF kb L hE8 ha8 hq8 c8 f0 T8 nn ext hq0 sQ
    refine ⟨_, rfl, _, rfl, _, rfl, a, xs, way, cc, rfl, SqL.of ha1, hE1, hz, fun Z2 b2 s2 hb2 => ?_⟩
    have eb : b = b2 := by
      have h : b = true ↔ b2 = true := hk.trans hb2.symm
      cases b <;> cases b2 <;> simp at h ⊢
    refine ⟨rfl, ?_⟩
    rw [eb, decide_eq_true rfl]
    refine ⟨_, rfl, iteT ?_⟩
    refine ⟨_, rfl, .bl b2, .ty "bool", _, _, true, rfl, .ty _, .base (.bl b2), kit_ty (by decide +kernel), _, rfl, iteT ?_⟩
    refine ⟨_, rfl, q, qs1, rfl, .inl (SqL.of (s2 _ _ hq1)), _, rfl, a, xs, rfl, .inl (SqL.of (s2 _ _ ha1)), _, _, ((xs.length : Int) - 1), rfl, rfl, rfl, _, _, rfl, _, _, rfl, rfl, ?_⟩
    have h := hQ Z2 (hX.trans (ExtN.of_same s2)) (Tabs.same hT1 s2)
    simp only [List.length_nil] at hl
    rw [show (V.bl true) = V.bl (decide ((qs1.length : Int) ≤ (if ((xs.length : Int) - 1) > 0 then ((xs.length : Int) - 1) else 0))) from by rw [decide_eq_true (by split <;> omega)]] at h
    exact h
end
end Ord

set_option pp.deepTerms false
set_option pp.maxSteps 1500
namespace Ord
open PySem PySem.Spec PyProof.Rows L2 LamX
section
variable {P : Program} {w : World} {K : PySem.W.Frag} {mg : Str → Option Value} {base : Heap} {T : List (Addr × Str)}
/-! ### _law_pushed -/
def N__law_pushed : List Str := ["_law_heap", "_law_element", "_law_way", "_law_asked", "_law_kept", "_law_told"]
theorem sc__law_pushed : FnScope ["_law_heap", "_law_element", "_law_way", "_law_asked", "_law_kept", "_law_told"] ["_law_heap", "_law_element", "_law_way"] (defScope st__law_pushed) := ⟨rfl, rfl, rfl, by decide +kernel, rfl, by decide +kernel, by decide +kernel⟩
def spPushed (K : PySem.W.Frag) (T : List (Addr × Str)) : Sp := fun vs H Q _ => ∃ (a : Addr) (xs : List V) (x : V) (way : Int) (c : V → Int × Int), vs = [.ref a, x, .int way] ∧ H a = some (.lst xs) ∧ Els c xs H ∧ El c x H ∧ xs.length ≤ 200 ∧ Tabs T H ∧ Mir.HeapOk (kyc way c) xs ∧
  ∀ H' p zs, ExtN H H' → Tabs T H' → H' p = some (.lst zs) → zs.Perm (xs ++ [x]) → Mir.HeapOk (kyc way c) zs → Q (.ref p) H'
theorem ok_pushed {cd Pt : Addr} (d__law_pushed : Df K mg "_law_pushed" st__law_pushed ["_law_heap", "_law_element", "_law_way"]) (d_push : Df K mg "push" st_push ["heap", "new", "order"]) (d_is_heap : Df K mg "is_heap" st_is_heap ["row", "order"]) (d__law_is_heap : Df K mg "_law_is_heap" st__law_is_heap ["_law_row_here", "_law_way"]) (d__law_ask : Df K mg "_law_ask" st__law_ask ["_law_asked", "_law_way", "_law_one", "_law_other"]) (d__law_answer : Df K mg "_law_answer" st__law_answer ["_law_way", "_law_one", "_law_other"]) (d__law_log : Df K mg "_law_log" st__law_log ["_law_many"]) (d__law_looked : Df K mg "_law_looked" st__law_looked ["_law_row_here", "_law_way"]) (mLen : mg "len" = none) (mList : mg "list" = none) (mInt : mg "int" = none) (mAbs : mg "abs" = none) (mMax : mg "max" = none) (mRange : mg "range" = none) (mAll : mg "all" = none) (mIsi : mg "isinstance" = none) (mBool : mg "bool" = none) (mTuple : mg "tuple" = none) (mSorted : mg "sorted" = none)
    (G__law_looked : FnOk P w K mg base CX0 5 d__law_looked.f d__law_looked.fd ["_law_row_here", "_law_way"] (spLooked K T))
    (TB : TabB base mg cd Pt) (hc : d__law_pushed.fd.code = .ref cd) (hm : (Pt, qpush) ∈ T) (hu : ∀ p ∈ T, p.1 = Pt → p.2 = qpush) : FnOk P w K mg base CX0 6 d__law_pushed.f d__law_pushed.fd ["_law_heap", "_law_element", "_law_way"] (spPushed K T) := by
  have G__law_ask : FnOk P w K mg base CX0 2 d__law_ask.f d__law_ask.fd ["_law_asked", "_law_way", "_law_one", "_law_other"] spAskK := ok_ask d__law_ask d__law_answer mInt mAbs
  have G__law_is_heap : FnOk P w K mg base CX0 2 d__law_is_heap.f d__law_is_heap.fd ["_law_row_here", "_law_way"] (spLawHeap K) := ok_law_is_heap d__law_is_heap d__law_answer mLen mInt mAbs mRange mAll
  have G__law_log : FnOk P w K mg base CX0 1 d__law_log.f d__law_log.fd ["_law_many"] spLog := ok_log d__law_log
  have G_push : FnOk P w K mg base CX0 4 d_push.f d_push.fd ["heap", "new", "order"] (spPush P w K mg base) := ok_push d_push mLen mList
  refine Fun.okc d__law_pushed.F hc sc__law_pushed (fun vs H Q E h => ?_) (fun A outer s H vs Q E hr h => ?_)
  · obtain ⟨a, xs, x, way, c, rfl, _⟩ := h
    rfl
  · obtain ⟨a, xs, x, way, cc, rfl, ha, hE, hx, hz, hT, hH, hQ⟩ := h
    have nd := sc__law_pushed.nd
    obtain ⟨X, eX⟩ : ∃ X, X = (cxOf CX0 P w K mg base N__law_pushed "_law_pushed" (defScope st__law_pushed) d__law_pushed.f (.ref cd) A outer s H E).nox := ⟨_, rfl⟩
    have un : UniqC X.env.cells := by
      rw [eX]
      exact uniq_cells (by decide +kernel)
    have hfn : ∀ x, X.fn x = true := by
      rw [eX]
      exact fun _ => rfl
    subst eX
    refine ⟨_, (pss_cons (ps_set (i := 3) nd rfl (Or.inr rfl) (pe_lst pa_nil))
  (pss_cons (ps_set (i := 4) nd rfl (Or.inl rfl) (pe_callTy call_list_of (by rfl) mList (by decide +kernel) (pa_cons (pv 0) pa_nil)))
  (pss_cons (ps_set (i := 5) nd rfl (Or.inl rfl) (pe_cdLent (d := d_push) G_push (hr.mono (by decide)) un hfn (pa_cons (pv 0) (pa_cons (pv 1) (pa_cons (pe_lam (T := T) (q := qpush) (show ("_law_pushed.<locals>." : Str) ++ "<lambda>" = qpush by decide +kernel) TB rfl hm hu rfl (NdefX.ndef_free (sc := defScope st__law_pushed) (fr := ["_law_asked", "_law_way"]) (by decide +kernel))) pa_nil)))))
  (pss_cons (ps_if (PW.pt (pw_or (pt_cmpR (op_neD hr.units) (pv 0) (pv 4) (nomark _)) (pw_or (pt_cmpR (op_neD hr.units) (pe_callB cr_sortedPO (by rfl) mSorted (by decide +kernel) (pa_cons (pv 5) pa_nil)) (pe_callB cr_sortedPO (by rfl) mSorted (by decide +kernel) (pa_cons (pe_op op_cat (pv 4) (pe_lst (pa_cons (pv 1) pa_nil))) pa_nil)) (nomark _)) (pw_or1 (pt_not (pt_val (pe_cd (d := d__law_is_heap) G__law_is_heap (hr.mono (by decide)) (pa_cons (pv 5) (pa_cons (pv 2) pa_nil)))))))))
    (pss_one (ps_ret pe_non))
    pss_nil)
  (pss_cons (ps_if (PW.pt (pw_or (pt_cmpR op_gt (pe_len mLen (pv 3)) (pe_cd (d := d__law_log) G__law_log (hr.mono (by decide)) (pa_cons (pe_op op_addE (pe_len mLen (pv 0)) pe_int) pa_nil)) (nomark _)) (pw_or1 (pt_not (pt_val (pe_cd (d := d__law_looked) G__law_looked (hr.mono (by decide)) (pa_cons (pv 5) (pa_cons (pv 2) pa_nil))))))))
    (pss_one (ps_ret pe_non))
    pss_nil)
  (pss_one (ps_ret (pv 5)))))))), ?_⟩
    refine ⟨Nat.zero_le _, fun q nq => ?_⟩
    have sQ := Same.new (o := .lst []) nq
    refine ⟨_, rfl, a, xs, rfl, .inl (SqL.of (sQ _ _ ha)), fun kp nkp => ?_⟩
    have sK := Same.new (o := .lst xs) nkp
    have sA := sQ.trans sK
    have hq0 : upd (upd H q (.lst [])) kp (.lst xs) q = some (.lst []) := kn nkp upd_same
    have hk0 : upd (upd H q (.lst [])) kp (.lst xs) kp = some (.lst xs) := upd_same
    have ha0 := sA _ _ ha
    have hT0 := Tabs.same hT sA
    have hE0 := hE.tk (Same.tk sA)
    have hx0 := hx.tk (Same.tk sA)
    have aq : a ≠ q := ne_of_none ha nq
    have kq : kp ≠ q := (ne_of_none (upd_same (H := H) (a := q) (o := .lst [])) nkp).symm
    obtain ⟨H2, e2⟩ : ∃ H2, H2 = upd (upd H q (.lst [])) kp (.lst xs) := ⟨_, rfl⟩
    rw [← e2] at sK hq0 hk0 ha0 hT0 hE0 hx0 ⊢
    clear e2 sA nkp
    refine ⟨_, rfl, _, rfl, hT0, fun f c' pm ctv H8 ext nn T8 f0 f8 c8 => ?_⟩
    intro H9 L
    have hq8 : H8 q = some (.lst []) := ext _ _ hq0 lst_tbl
    have ha8 : H8 a = some (.lst xs) := ext _ _ ha0 lst_tbl
    have hk8 : H8 kp = some (.lst xs) := ext _ _ hk0 lst_tbl
    have hE8 : Els cc xs H8 := hE0.tk (ExtN.tk ext)
    have hx8 : El cc x H8 := hx0.tk (ExtN.tk ext)
    let O : Orc P w K mg base := orcAt f8 ["_law_one", "_law_other"] ["_law_asked", "_law_way"] [some (.ref q), some (.int way)] (fun _ x y => Mir.ansI way (cc x) (cc y)) (El cc) (NdefX.nscope_by (by decide +kernel)) rfl rfl
      (fun us hl => match us, hl with | [_, _], _ => rfl) (fun k h => h.tk k)
      (fun A outer s H0 hr => pe_cd (d := d__law_ask) G__law_ask hr (pa_cons (pv 2) (pa_cons (pv 3) (pa_cons (pv 0) (pa_cons (pv 1) pa_nil)))))
      (fun x y l qs H Q h1 h2 h3 dx dy hQ => ⟨_, rfl, _, rfl, _, rfl, _, rfl, q, way, x, y, cc x, cc y, qs, rfl, h1, by have := h2.length; omega, dx.1, dy.1, dx.2.1, dy.2.1, hQ⟩)
    have kA : Mir.KeyA O.ans (kyc way cc) := Mir.keyA_of way cc
    refine ⟨O, a, xs, x, [], rfl, Row.of (L.keep ha8) aq, L.log (js := [3, 2]) (NdefX.ndef_free (sc := defScope st__law_pushed) (fr := ["_law_asked", "_law_way"]) (by decide +kernel)) (NdefX.ndef_fr (sc := defScope st__law_pushed) (fr := ["_law_asked", "_law_way"]) (by decide +kernel)) rfl f8 c8 hq8 .nil, fun x hx => (hE8 x hx).tk (Same.tk L.same), hx8.tk (Same.tk L.same), by omega, by simp only [List.length_nil]; omega, fun H10 p zs l1 kb np hp hL hl hpm hk => ?_⟩
    have hk := hk _ kA hH
    obtain ⟨_, _, _, qs, hq10, lg10⟩ := hL
    have kbF := L.kb kb
    refine lentQ_of (F := fun H11 => ExtN H H11 ∧ Tabs T H11 ∧ (∃ qs, H11 q = some (.lst qs) ∧ qs.length = l1.length) ∧ H11 a = some (.lst xs) ∧ H11 kp = some (.lst xs) ∧ H11 p = some (.lst zs) ∧ Els cc xs H11 ∧ El cc x H11) ⟨ext_after nq sK ext kbF, Tabs.kb1 T8 hq8 kbF, ⟨qs, L.at3 (lst_nfz (L.keep hq8)) kb hq10 lst_fz, lg10.length⟩, kbF.keep _ _ aq ha8, kbF.keep _ _ kq hk8, L.at3 (lst_nfz (L.keep hq8)) kb hp lst_fz, hE8.tk kbF.tk, hx8.tk kbF.tk⟩ fun Z1 ⟨hX, hT1, ⟨qs1, hq1, lq1⟩, ha1, hk1, hp1, hE1, hx1⟩ => ?_
    clear hq10 lg10 kbF kb L hE8 ha8 hq8 hx8 hk8 c8 f0 T8 nn ext hq0 hk0 ha0 hT0 hE0 hx0 sK sQ np hp
    have lz := hpm.length_eq
    rw [List.length_append, List.length_singleton] at lz
    have hEa : Els cc (xs ++ [x]) Z1 := fun y hy => by
      rcases List.mem_append.mp hy with h | h
      · exact hE1 y h
      · rw [List.mem_singleton.mp h]
        exact hx1
    have hEz : Els cc zs Z1 := hEa.sub fun y hy => hpm.subset hy
    -- heap != kept
    refine ⟨_, rfl, _, rfl, _, _, dp_row (SqL.of ha1) hE1, dp_row (SqL.of hk1) hE1, shaped_row cc _, shaped_row cc _, _, rfl, ?_⟩
    rw [eqv_row, decide_eq_true rfl]
    refine iteF ?_
    -- sorted
    refine ⟨_, rfl, p, zs, cc, rfl, SqL.of hp1, fun y hy => (hEz y hy).1, fun us r1 srt1 stb1 nr1 => ?_⟩
    refine ⟨_, rfl, _, rfl, by show 1 ≤ sizeLine; decide, fun b1 nb1 => ?_⟩
    refine ⟨kp, b1, xs, [x], rfl, rfl, kn nb1 (kn nr1 hk1), upd_same, z1000 (by show xs.length + 1 ≤ 1000; omega), fun b2 nb2 => ?_⟩
    have s3 := ((Same.new (o := .lst us) nr1).trans (Same.new (o := .lst [x]) nb1)).trans (Same.new (o := .lst (xs ++ [x])) nb2)
    refine ⟨b2, xs ++ [x], cc, rfl, SqL.of upd_same, fun y hy => ((hEa.tk (Same.tk s3)) y hy).1, fun vs2 r2 srt2 stb2 nr2 => ?_⟩
    have s4 := s3.trans (Same.new (o := .lst vs2) nr2)
    have hu2 : upd (upd (upd (upd Z1 r1 (.lst us)) b1 (.lst [x])) b2 (.lst (xs ++ [x]))) r2 (.lst vs2) r1 = some (.lst us) := kn nr2 (kn nb2 (kn nb1 upd_same))
    have hv2 : upd (upd (upd (upd Z1 r1 (.lst us)) b1 (.lst [x])) b2 (.lst (xs ++ [x]))) r2 (.lst vs2) r2 = some (.lst vs2) := upd_same
    obtain ⟨Z2, e2⟩ : ∃ Z2, Z2 = upd (upd (upd (upd Z1 r1 (.lst us)) b1 (.lst [x])) b2 (.lst (xs ++ [x]))) r2 (.lst vs2) := ⟨_, rfl⟩
    rw [← e2] at s4 hu2 hv2 ⊢
    clear e2 s3 nr2 nb2 nb1 nr1
    have hE2 := hEa.tk (Same.tk s4)
    refine ⟨_, _, dp_row (SqL.of hu2) (hE2.sub fun y hy => hpm.subset (stb1.perm.subset hy)), dp_row (SqL.of hv2) (hE2.sub fun y hy => stb2.perm.subset hy), shaped_row cc _, shaped_row cc _, _, rfl, ?_⟩
    rw [eqv_row, decide_eq_true (sorted_eq srt1 stb1 srt2 stb2 hpm)]
    refine iteF ?_
    -- the law's look
    refine ⟨_, rfl, _, rfl, p, zs, way, cc, rfl, SqL.of (s4 _ _ hp1), hEz.tk (Same.tk s4), by omega, fun Z3 b s5 hb => ?_⟩
    rw [hb.mpr hk]
    refine ⟨_, rfl, iteF ?_⟩
    have s6 := s4.trans s5
    -- the questions
    refine ⟨_, rfl, q, qs1, rfl, .inl (SqL.of (s6 _ _ hq1)), _, rfl, a, xs, rfl, .inl (SqL.of (s6 _ _ ha1)), _, _, ((xs.length + 1 : Nat) : Int), rfl, rfl, rfl, xs.length + 1, rfl, by omega, _, _, rfl, rfl, _, rfl, ?_⟩
    refine iteD (fun h => ?_) (fun _ => ?_)
    · have h' : ((Mir.clog (xs.length + 1) : Nat) : Int) < (qs1.length : Int) := h
      simp only [List.length_nil] at hl
      omega
    refine ⟨_, rfl, _, rfl, p, zs, way, cc, rfl, s6 _ _ hp1, hEz.tk (Same.tk s6), by omega, Tabs.same hT1 s6, fun Z4 x4 hT4 => ?_⟩
    refine ⟨_, rfl, iteF ?_⟩
    refine ⟨_, rfl, ?_⟩
    exact hQ Z4 p zs ((hX.trans (ExtN.of_same s6)).trans x4) hT4 (x4 _ _ (s6 _ _ hp1) lst_tbl) hpm hk
/-! ### _law_popped -/
def N__law_popped : List Str := ["_law_heap", "_law_way", "_law_asked", "_law_kept", "_law_told"]
theorem sc__law_popped : FnScope ["_law_heap", "_law_way", "_law_asked", "_law_kept", "_law_told"] ["_law_heap", "_law_way"] (defScope st__law_popped) := ⟨rfl, rfl, rfl, by decide +kernel, rfl, by decide +kernel, by decide +kernel⟩
def spPopped (K : PySem.W.Frag) (T : List (Addr × Str)) : Sp := fun vs H Q _ => ∃ (a : Addr) (h0 : V) (t : List V) (way : Int) (c : V → Int × Int), vs = [.ref a, .int way] ∧ H a = some (.lst (h0 :: t)) ∧ Els c (h0 :: t) H ∧ t.length ≤ 200 ∧ Tabs T H ∧ Mir.HeapOk (kyc way c) (h0 :: t) ∧
  ∀ H' tu p zs, ExtN H H' → Tabs T H' → H' tu = some (.tup [h0, .ref p]) → H p = none → H' p = some (.lst zs) → zs.Perm t → Mir.HeapOk (kyc way c) zs → Q (.ref tu) H'
theorem ok_popped {cd Pt : Addr} (d__law_popped : Df K mg "_law_popped" st__law_popped ["_law_heap", "_law_way"]) (d_pop : Df K mg "pop" st_pop ["heap", "order"]) (d_sunk : Df K mg "sunk" st_sunk ["row", "place", "order"]) (d__law_is_heap : Df K mg "_law_is_heap" st__law_is_heap ["_law_row_here", "_law_way"]) (d__law_ask : Df K mg "_law_ask" st__law_ask ["_law_asked", "_law_way", "_law_one", "_law_other"]) (d__law_answer : Df K mg "_law_answer" st__law_answer ["_law_way", "_law_one", "_law_other"]) (d__law_log : Df K mg "_law_log" st__law_log ["_law_many"]) (mLen : mg "len" = none) (mList : mg "list" = none) (mInt : mg "int" = none) (mAbs : mg "abs" = none) (mMax : mg "max" = none) (mRange : mg "range" = none) (mAll : mg "all" = none) (mIsi : mg "isinstance" = none) (mBool : mg "bool" = none) (mTuple : mg "tuple" = none) (mSorted : mg "sorted" = none)
    (TB : TabB base mg cd Pt) (hc : d__law_popped.fd.code = .ref cd) (hm : (Pt, qpop) ∈ T) (hu : ∀ p ∈ T, p.1 = Pt → p.2 = qpop) : FnOk P w K mg base CX0 6 d__law_popped.f d__law_popped.fd ["_law_heap", "_law_way"] (spPopped K T) := by
  have G__law_ask : FnOk P w K mg base CX0 2 d__law_ask.f d__law_ask.fd ["_law_asked", "_law_way", "_law_one", "_law_other"] spAskK := ok_ask d__law_ask d__law_answer mInt mAbs
  have G__law_is_heap : FnOk P w K mg base CX0 2 d__law_is_heap.f d__law_is_heap.fd ["_law_row_here", "_law_way"] (spLawHeap K) := ok_law_is_heap d__law_is_heap d__law_answer mLen mInt mAbs mRange mAll
  have G__law_log : FnOk P w K mg base CX0 1 d__law_log.f d__law_log.fd ["_law_many"] spLog := ok_log d__law_log
  have G_pop : FnOk P w K mg base CX0 5 d_pop.f d_pop.fd ["heap", "order"] (spPop P w K mg base) := ok_pop d_pop d_sunk mLen mList
  refine Fun.okc d__law_popped.F hc sc__law_popped (fun vs H Q E h => ?_) (fun A outer s H vs Q E hr h => ?_)
  · obtain ⟨a, h0, t, way, c, rfl, _⟩ := h
    rfl
  · obtain ⟨a, h0, t, way, cc, rfl, ha, hE, hz, hT, hH, hQ⟩ := h
    have nd := sc__law_popped.nd
    obtain ⟨X, eX⟩ : ∃ X, X = (cxOf CX0 P w K mg base N__law_popped "_law_popped" (defScope st__law_popped) d__law_popped.f (.ref cd) A outer s H E).nox := ⟨_, rfl⟩
    have un : UniqC X.env.cells := by
      rw [eX]
      exact uniq_cells (by decide +kernel)
    have hfn : ∀ x, X.fn x = true := by
      rw [eX]
      exact fun _ => rfl
    subst eX
    refine ⟨_, (pss_cons (ps_set (i := 2) nd rfl (Or.inr rfl) (pe_lst pa_nil))
  (pss_cons (ps_set (i := 3) nd rfl (Or.inl rfl) (pe_callTy call_list_of (by rfl) mList (by decide +kernel) (pa_cons (pv 0) pa_nil)))
  (pss_cons (ps_set (i := 4) nd rfl (Or.inl rfl) (pe_cdLent (d := d_pop) G_pop (hr.mono (by decide)) un hfn (pa_cons (pv 0) (pa_cons (pe_lam (T := T) (q := qpop) (show ("_law_popped.<locals>." : Str) ++ "<lambda>" = qpop by decide +kernel) TB rfl hm hu rfl (NdefX.ndef_free (sc := defScope st__law_popped) (fr := ["_law_asked", "_law_way"]) (by decide +kernel))) pa_nil))))
  (pss_cons (ps_if (PW.pt (pw_or (pt_cmpR (op_neD hr.units) (pv 0) (pv 3) (nomark _)) (pw_or (pt_cmpR (op_neD hr.units) (pe_ix ix_tup (pv 4) pe_int (fun _ _ => rfl)) (pe_ix ix_list (pv 3) pe_int (fun _ _ => rfl)) (nomark _)) (pw_or (pt_cmpR (op_neD hr.units) (pe_callB cr_sortedPO (by rfl) mSorted (by decide +kernel) (pa_cons (pe_ix ix_tup (pv 4) pe_int (fun _ _ => rfl)) pa_nil)) (pe_callB cr_sortedPO (by rfl) mSorted (by decide +kernel) (pa_cons (pe_slice sl_list (pv 3) (po_some pe_int) po_none) pa_nil)) (nomark _)) (pw_or1 (pt_not (pt_val (pe_callB call_isi (by rfl) mIsi (by decide +kernel) (pa_cons (pv 4) (pa_cons (pe_bltn (v := .ty "tuple") (by rfl) mTuple (by decide +kernel) rfl) pa_nil))))))))))
    (pss_one (ps_ret pe_non))
    pss_nil)
  (pss_cons (ps_if (PW.pt (pw_or (pt_not (pt_val (pe_cd (d := d__law_is_heap) G__law_is_heap (hr.mono (by decide)) (pa_cons (pe_ix ix_tup (pv 4) pe_int (fun _ _ => rfl)) (pa_cons (pv 1) pa_nil))))) (pw_or1 (pt_cmpR op_gt (pe_len mLen (pv 2)) (pe_op op_mulE pe_int (pe_cd (d := d__law_log) G__law_log (hr.mono (by decide)) (pa_cons (pe_len mLen (pv 0)) pa_nil))) (nomark _)))))
    (pss_one (ps_ret pe_non))
    pss_nil)
  (pss_one (ps_ret (pv 4)))))))), ?_⟩
    refine ⟨Nat.zero_le _, fun q nq => ?_⟩
    have sQ := Same.new (o := .lst []) nq
    refine ⟨_, rfl, a, h0 :: t, rfl, .inl (SqL.of (sQ _ _ ha)), fun kp nkp => ?_⟩
    have sK := Same.new (o := .lst (h0 :: t)) nkp
    have sA := sQ.trans sK
    have hq0 : upd (upd H q (.lst [])) kp (.lst (h0 :: t)) q = some (.lst []) := kn nkp upd_same
    have hk0 : upd (upd H q (.lst [])) kp (.lst (h0 :: t)) kp = some (.lst (h0 :: t)) := upd_same
    have ha0 := sA _ _ ha
    have hT0 := Tabs.same hT sA
    have hE0 := hE.tk (Same.tk sA)
    have aq : a ≠ q := ne_of_none ha nq
    have kq : kp ≠ q := (ne_of_none (upd_same (H := H) (a := q) (o := .lst [])) nkp).symm
    obtain ⟨H2, e2⟩ : ∃ H2, H2 = upd (upd H q (.lst [])) kp (.lst (h0 :: t)) := ⟨_, rfl⟩
    rw [← e2] at sK hq0 hk0 ha0 hT0 hE0 ⊢
    have hn2 : ∀ b, H2 b = none → H b = none := fun b e => by rw [e2] at e; exact upd_none (upd_none e)
    clear e2 sA nkp
    refine ⟨_, rfl, hT0, fun f c' pm ctv H8 ext nn T8 f0 f8 c8 => ?_⟩
    intro H9 L
    have hq8 : H8 q = some (.lst []) := ext _ _ hq0 lst_tbl
    have ha8 : H8 a = some (.lst (h0 :: t)) := ext _ _ ha0 lst_tbl
    have hk8 : H8 kp = some (.lst (h0 :: t)) := ext _ _ hk0 lst_tbl
    have hE8 : Els cc (h0 :: t) H8 := hE0.tk (ExtN.tk ext)
    let O : Orc P w K mg base := orcAt f8 ["_law_one", "_law_other"] ["_law_asked", "_law_way"] [some (.ref q), some (.int way)] (fun _ x y => Mir.ansI way (cc x) (cc y)) (El cc) (NdefX.nscope_by (by decide +kernel)) rfl rfl
      (fun us hl => match us, hl with | [_, _], _ => rfl) (fun k h => h.tk k)
      (fun A outer s H0 hr => pe_cd (d := d__law_ask) G__law_ask hr (pa_cons (pv 2) (pa_cons (pv 3) (pa_cons (pv 0) (pa_cons (pv 1) pa_nil)))))
      (fun x y l qs H Q h1 h2 h3 dx dy hQ => ⟨_, rfl, _, rfl, _, rfl, _, rfl, q, way, x, y, cc x, cc y, qs, rfl, h1, by have := h2.length; omega, dx.1, dy.1, dx.2.1, dy.2.1, hQ⟩)
    have kA : Mir.KeyA O.ans (kyc way cc) := Mir.keyA_of way cc
    refine ⟨O, a, h0, t, [], rfl, Row.of (L.keep ha8) aq, L.log (js := [2, 1]) (NdefX.ndef_free (sc := defScope st__law_popped) (fr := ["_law_asked", "_law_way"]) (by decide +kernel)) (NdefX.ndef_fr (sc := defScope st__law_popped) (fr := ["_law_asked", "_law_way"]) (by decide +kernel)) rfl f8 c8 hq8 .nil, fun x hx => (hE8 x hx).tk (Same.tk L.same), DatS.of (hE8.tk (Same.tk L.same)), by omega, by simp only [List.length_nil]; omega, fun H10 tu p zs l1 kb ntu htu np hp hL hl hpm hk => ?_⟩
    have hk := hk _ kA hH
    obtain ⟨_, _, _, qs, hq10, lg10⟩ := hL
    have npH : H p = none := hn2 _ (nn _ (L.free1 np))
    have kbF := L.kb kb
    have nfz := lst_nfz (L.keep hq8)
    refine lentQ_of (F := fun H11 => ExtN H H11 ∧ Tabs T H11 ∧ (∃ qs, H11 q = some (.lst qs) ∧ qs.length = l1.length) ∧ H11 a = some (.lst (h0 :: t)) ∧ H11 kp = some (.lst (h0 :: t)) ∧ H11 tu = some (.tup [h0, .ref p]) ∧ H11 p = some (.lst zs) ∧ Els cc (h0 :: t) H11) ⟨ext_after nq sK ext kbF, Tabs.kb1 T8 hq8 kbF, ⟨qs, L.at3 nfz kb hq10 lst_fz, lg10.length⟩, kbF.keep _ _ aq ha8, kbF.keep _ _ kq hk8, L.at3 nfz kb htu tup_fz, L.at3 nfz kb hp lst_fz, hE8.tk kbF.tk⟩ fun Z1 ⟨hX, hT1, ⟨qs1, hq1, lq1⟩, ha1, hk1, htu1, hp1, hE1⟩ => ?_
    clear hq10 lg10 kbF kb nfz L hE8 ha8 hq8 hk8 c8 f0 T8 nn ext hq0 hk0 ha0 hT0 hE0 sK sQ np hp ntu htu
    have lz := hpm.length_eq
    have hEt : Els cc t Z1 := hE1.sub fun y hy => List.mem_cons_of_mem _ hy
    have hEz : Els cc zs Z1 := hEt.sub fun y hy => hpm.subset hy
    -- heap != kept
    refine ⟨_, rfl, _, rfl, _, _, dp_row (SqL.of ha1) hE1, dp_row (SqL.of hk1) hE1, shaped_row cc _, shaped_row cc _, _, rfl, ?_⟩
    rw [eqv_row, decide_eq_true rfl]
    refine iteF ?_
    -- the first
    have eh := hE1 h0 List.mem_cons_self
    refine ⟨_, rfl, tu, _, 0, h0, rfl, rfl, SqT.of htu1, rfl, _, rfl, kp, h0 :: t, 0, h0, rfl, rfl, SqL.of hk1, atI_nat (j := 0) rfl, _, _, dp_el eh.1, dp_el eh.1, shaped_pd _, shaped_pd _, _, rfl, ?_⟩
    rw [eqv_pd, decide_eq_true rfl]
    refine iteF ?_
    -- sorted
    refine ⟨_, rfl, tu, _, 1, .ref p, rfl, rfl, SqT.of htu1, rfl, p, zs, cc, rfl, SqL.of hp1, fun y hy => (hEz y hy).1, fun us r1 srt1 stb1 nr1 => ?_⟩
    refine ⟨_, rfl, _, rfl, kp, h0 :: t, rfl, SqL.of (kn nr1 hk1), fun b1 nb1 => ?_⟩
    rw [show cutV (h0 :: t) (some (1 : Int)) none = t from cut_from1 (h0 :: t) 1]
    have s3 := (Same.new (o := .lst us) nr1).trans (Same.new (o := .lst t) nb1)
    refine ⟨b1, t, cc, rfl, SqL.of upd_same, fun y hy => ((hEt.tk (Same.tk s3)) y hy).1, fun vs2 r2 srt2 stb2 nr2 => ?_⟩
    have s4 := s3.trans (Same.new (o := .lst vs2) nr2)
    have hu2 : upd (upd (upd Z1 r1 (.lst us)) b1 (.lst t)) r2 (.lst vs2) r1 = some (.lst us) := kn nr2 (kn nb1 upd_same)
    have hv2 : upd (upd (upd Z1 r1 (.lst us)) b1 (.lst t)) r2 (.lst vs2) r2 = some (.lst vs2) := upd_same
    obtain ⟨Z2, e2⟩ : ∃ Z2, Z2 = upd (upd (upd Z1 r1 (.lst us)) b1 (.lst t)) r2 (.lst vs2) := ⟨_, rfl⟩
    rw [← e2] at s4 hu2 hv2 ⊢
    clear e2 s3 nr2 nb1 nr1
    have hE2 := hEt.tk (Same.tk s4)
    refine ⟨_, _, dp_row (SqL.of hu2) (hE2.sub fun y hy => hpm.subset (stb1.perm.subset hy)), dp_row (SqL.of hv2) (hE2.sub fun y hy => stb2.perm.subset hy), shaped_row cc _, shaped_row cc _, _, rfl, ?_⟩
    rw [eqv_row, decide_eq_true (sorted_eq srt1 stb1 srt2 stb2 hpm)]
    refine iteF ?_
    refine ⟨_, rfl, .ref tu, .ty "tuple", _, _, true, rfl, .ty _, .base (.tup (s4 _ _ htu1)), kit_ty (by decide +kernel), _, rfl, iteF ?_⟩
    -- the law's look
    refine ⟨_, rfl, tu, _, 1, .ref p, rfl, rfl, SqT.of (s4 _ _ htu1), rfl, _, rfl, p, zs, way, cc, rfl, SqL.of (s4 _ _ hp1), hEz.tk (Same.tk s4), by omega, fun Z3 b s5 hb => ?_⟩
    rw [hb.mpr hk]
    refine ⟨_, rfl, iteF ?_⟩
    have s6 := s4.trans s5
    -- the questions
    refine ⟨_, rfl, q, qs1, rfl, .inl (SqL.of (s6 _ _ hq1)), _, rfl, a, h0 :: t, rfl, .inl (SqL.of (s6 _ _ ha1)), t.length + 1, rfl, by omega, _, _, ((2 * Mir.clog (t.length + 1) : Nat) : Int), rfl, rfl, .inl ⟨by decide, by decide⟩, (by show ((2 * Mir.clog (t.length + 1) : Nat) : Int) = 2 * (Mir.clog (t.length + 1) : Int); omega), _, _, rfl, rfl, _, rfl, ?_⟩
    refine iteD (fun h => ?_) (fun _ => ?_)
    · have h' : ((2 * Mir.clog (t.length + 1) : Nat) : Int) < (qs1.length : Int) := h
      simp only [List.length_nil] at hl
      omega
    refine ⟨_, rfl, ?_⟩
    exact hQ Z3 tu p zs (hX.trans (ExtN.of_same s6)) (Tabs.same hT1 s6) (s6 _ _ htu1) npH (s6 _ _ hp1) hpm hk
end
end Ord

set_option pp.deepTerms false
set_option pp.maxSteps 1500
namespace Ord
open PySem PySem.Spec PyProof.Rows L2 LamX
section
variable {P : Program} {w : World} {K : PySem.W.Frag} {mg : Str → Option Value} {base : Heap}
def N_law : List Str := ["_law_script", "_law_more", "_law_way", "_law_row_here", "_law_heap", "_law_element", "_law_found", "_law_asked", "_law_told", "_law_came", "_law_k"]
theorem sc_law : FnScope ["_law_script", "_law_more", "_law_way", "_law_row_here", "_law_heap", "_law_element", "_law_found", "_law_asked", "_law_told", "_law_came", "_law_k"] ["_law_script"] (defScope st_law) := ⟨rfl, rfl, rfl, by decide +kernel, rfl, by decide +kernel, by decide +kernel⟩
def spLaw (K : PySem.W.Frag) (P0 P1 P2 P3 : Addr) : Sp := fun vs H Q _ => ∃ (a : Addr) (ns : List Int), vs = [.ref a] ∧ SqL K H a (ns.map V.int) ∧ ns.length ≤ 63 ∧ H P0 = some (.tbl #[]) ∧ H P1 = some (.tbl #[]) ∧ H P2 = some (.tbl #[]) ∧ H P3 = some (.tbl #[]) ∧ ∀ H', Q (.bl true) H'
theorem ok_law {c0 c1 c2 c3 P0 P1 P2 P3 : Addr} (d_law : Df K mg "law" st_law ["_law_script"]) (d_is_heap : Df K mg "is_heap" st_is_heap ["row", "order"]) (d_push : Df K mg "push" st_push ["heap", "new", "order"]) (d_sunk : Df K mg "sunk" st_sunk ["row", "place", "order"]) (d_pop : Df K mg "pop" st_pop ["heap", "order"]) (d_heaped : Df K mg "heaped" st_heaped ["row", "order"]) (d__law_cell : Df K mg "_law_cell" st__law_cell ["_law_script", "_law_k"]) (d__law_drawn : Df K mg "_law_drawn" st__law_drawn ["_law_cell_here", "_law_k"]) (d__law_answer : Df K mg "_law_answer" st__law_answer ["_law_way", "_law_one", "_law_other"]) (d__law_ask : Df K mg "_law_ask" st__law_ask ["_law_asked", "_law_way", "_law_one", "_law_other"]) (d__law_log : Df K mg "_law_log" st__law_log ["_law_many"]) (d__law_row : Df K mg "_law_row" st__law_row ["_law_script", "_law_start", "_law_many", "_law_spread"]) (d__law_size : Df K mg "_law_size" st__law_size ["_law_script", "_law_most"]) (d__law_is_heap : Df K mg "_law_is_heap" st__law_is_heap ["_law_row_here", "_law_way"]) (d__law_looked : Df K mg "_law_looked" st__law_looked ["_law_row_here", "_law_way"]) (d__law_pushed : Df K mg "_law_pushed" st__law_pushed ["_law_heap", "_law_element", "_law_way"]) (d__law_popped : Df K mg "_law_popped" st__law_popped ["_law_heap", "_law_way"])
    (hnd : [P0, P1, P2, P3].Nodup) (mLen : mg "len" = none) (mList : mg "list" = none) (mInt : mg "int" = none) (mAbs : mg "abs" = none) (mMin : mg "min" = none) (mMax : mg "max" = none) (mRange : mg "range" = none) (mAll : mg "all" = none) (mIsi : mg "isinstance" = none) (mBool : mg "bool" = none) (mTuple : mg "tuple" = none) (mSorted : mg "sorted" = none)
    (TB : TabB base mg c0 P0) (TB1 : TabB base mg c1 P1) (TB2 : TabB base mg c2 P2) (TB3 : TabB base mg c3 P3) (hc : d_law.fd.code = .ref c0) (hc1 : d__law_looked.fd.code = .ref c1) (hc2 : d__law_pushed.fd.code = .ref c2) (hc3 : d__law_popped.fd.code = .ref c3) : FnOk P w K mg base CX0 20 d_law.f d_law.fd ["_law_script"] (spLaw K P0 P1 P2 P3) := by
  obtain ⟨T, eT⟩ : ∃ T : List (Addr × Str), T = [(P0, qlam), (P1, qlook), (P2, qpush), (P3, qpop)] := ⟨_, rfl⟩
  have tabu : ∀ (Pt : Addr) (q : Str), (Pt, q) ∈ T → ∀ p ∈ T, p.1 = Pt → p.2 = q := fun Pt q h p hp e => by
    rw [eT] at h hp
    simp only [List.mem_cons, List.not_mem_nil, or_false] at h hp
    simp only [List.nodup_cons, List.mem_cons, List.not_mem_nil, or_false, not_or, not_false_eq_true, List.nodup_nil, and_true] at hnd
    obtain ⟨⟨n1, n2, n3⟩, ⟨n4, n5⟩, n6⟩ := hnd
    rcases h with h | h | h | h <;> rcases hp with z | z | z | z <;> cases h <;> subst z <;> first | rfl | exact absurd e (by first | assumption | exact fun y => by first | exact n1 y | exact n2 y | exact n3 y | exact n4 y | exact n5 y | exact n6 y | exact n1 y.symm | exact n2 y.symm | exact n3 y.symm | exact n4 y.symm | exact n5 y.symm | exact n6 y.symm)
  have hm : (P0, qlam) ∈ T := by rw [eT]; simp
  have hu := tabu P0 qlam hm
  have hm1 : (P1, qlook) ∈ T := by rw [eT]; simp
  have hm2 : (P2, qpush) ∈ T := by rw [eT]; simp
  have hm3 : (P3, qpop) ∈ T := by rw [eT]; simp
  have G__law_cell : FnOk P w K mg base CX0 1 d__law_cell.f d__law_cell.fd ["_law_script", "_law_k"] (spCellK K) := ok_cell d__law_cell mLen
  have G__law_drawn : FnOk P w K mg base CX0 1 d__law_drawn.f d__law_drawn.fd ["_law_cell_here", "_law_k"] spDrawn := ok_drawn d__law_drawn
  have G__law_answer : FnOk P w K mg base CX0 1 d__law_answer.f d__law_answer.fd ["_law_way", "_law_one", "_law_other"] spAnswer := ok_answer d__law_answer mInt mAbs
  have G__law_ask : FnOk P w K mg base CX0 2 d__law_ask.f d__law_ask.fd ["_law_asked", "_law_way", "_law_one", "_law_other"] spAskK := ok_ask d__law_ask d__law_answer mInt mAbs
  have G__law_row : FnOk P w K mg base CX0 2 d__law_row.f d__law_row.fd ["_law_script", "_law_start", "_law_many", "_law_spread"] (spRowK K) := ok_row d__law_row d__law_cell d__law_drawn mLen mRange
  have G__law_size : FnOk P w K mg base CX0 2 d__law_size.f d__law_size.fd ["_law_script", "_law_most"] (spSizeK K) := ok_size d__law_size d__law_cell d__law_drawn mLen mMin
  have G__law_is_heap : FnOk P w K mg base CX0 2 d__law_is_heap.f d__law_is_heap.fd ["_law_row_here", "_law_way"] (spLawHeap K) := ok_law_is_heap d__law_is_heap d__law_answer mLen mInt mAbs mRange mAll
  have G__law_looked : FnOk P w K mg base CX0 5 d__law_looked.f d__law_looked.fd ["_law_row_here", "_law_way"] (spLooked K T) := ok_looked d__law_looked d_is_heap d__law_is_heap d__law_ask d__law_answer mLen mInt mAbs mMax mRange mAll mIsi mBool TB1 hc1 hm1 (tabu P1 qlook hm1)
  have G__law_pushed : FnOk P w K mg base CX0 6 d__law_pushed.f d__law_pushed.fd ["_law_heap", "_law_element", "_law_way"] (spPushed K T) := ok_pushed d__law_pushed d_push d_is_heap d__law_is_heap d__law_ask d__law_answer d__law_log d__law_looked mLen mList mInt mAbs mMax mRange mAll mIsi mBool mTuple mSorted G__law_looked TB2 hc2 hm2 (tabu P2 qpush hm2)
  have G__law_popped : FnOk P w K mg base CX0 6 d__law_popped.f d__law_popped.fd ["_law_heap", "_law_way"] (spPopped K T) := ok_popped d__law_popped d_pop d_sunk d__law_is_heap d__law_ask d__law_answer d__law_log mLen mList mInt mAbs mMax mRange mAll mIsi mBool mTuple mSorted TB3 hc3 hm3 (tabu P3 qpop hm3)
  have G_heaped : FnOk P w K mg base CX0 5 d_heaped.f d_heaped.fd ["row", "order"] (spHeaped P w K mg base) := ok_heaped d_heaped d_sunk mLen mList mRange
  refine Fun.okc d_law.F hc sc_law (fun vs H Q E h => ?_) (fun A outer s H vs Q E hr h => ?_)
  · obtain ⟨a, ns, rfl, _⟩ := h
    rfl
  · obtain ⟨a, ns, rfl, hS, hz, hP0, hP1, hP2, hP3, hQ⟩ := h
    have nd := sc_law.nd
    obtain ⟨X, eX⟩ : ∃ X, X = (cxOf CX0 P w K mg base N_law "law" (defScope st_law) d_law.f (.ref c0) A outer s H E).nox := ⟨_, rfl⟩
    have un : UniqC X.env.cells := by
      rw [eX]
      exact uniq_cells (by decide +kernel)
    have hfn : ∀ x, X.fn x = true := by
      rw [eX]
      exact fun _ => rfl
    subst eX
    have hT : Tabs T H := fun p hp => by
      rw [eT] at hp
      simp only [List.mem_cons, List.not_mem_nil, or_false] at hp
      rcases hp with z | z | z | z <;> rw [z]
      · exact TabS.nil hP0
      · exact TabS.nil hP1
      · exact TabS.nil hP2
      · exact TabS.nil hP3
    clear hP0 hP1 hP2 hP3 eT tabu hm1 hm2 hm3
    refine ⟨_, (pss_cons (ps_set (i := 1) nd rfl (Or.inl rfl) (pe_cd (d := d__law_drawn) G__law_drawn (hr.mono (by decide)) (pa_cons (pe_cd (d := d__law_cell) G__law_cell (hr.mono (by decide)) (pa_cons (pv 0) (pa_cons pe_int pa_nil))) (pa_cons pe_int pa_nil))))
  (pss_cons (ps_set (i := 2) nd rfl (Or.inr rfl) (pe_op op_modE (pv 1) pe_int))
  (pss_cons (ps_set (i := 3) nd rfl (Or.inl rfl) (pe_cd (d := d__law_row) G__law_row (hr.mono (by decide)) (pa_cons (pv 0) (pa_cons pe_int (pa_cons (pe_cd (d := d__law_size) G__law_size (hr.mono (by decide)) (pa_cons (pv 0) (pa_cons pe_int pa_nil))) (pa_cons (pe_ix ix_list (pe_lst (pa_cons pe_int (pa_cons pe_int (pa_cons pe_int (pa_cons pe_int pa_nil))))) (pe_op op_modE (pe_op op_fdivE (pv 1) pe_int) pe_int) (fun _ _ => rfl)) pa_nil))))))
  (pss_cons (ps_set (i := 4) nd rfl (Or.inl rfl) (pe_lst pa_nil))
  (pss_cons (ps_for PassesOwn.never rfl (pi_list (pv 3)) (pg_name (i := 5) nd rfl (Or.inl rfl))
    (C8.pss_cut (ps_if (PW.pt (pw_and (pt_cmpR op_eq (pe_op op_modE (pe_cd (d := d__law_drawn) G__law_drawn (hr.mono (by decide)) (pa_cons (pe_cd (d := d__law_cell) G__law_cell (hr.mono (by decide)) (pa_cons (pv 0) (pa_cons (pe_ix ix_tup (pv 5) pe_int (fun _ _ => rfl)) pa_nil))) (pa_cons pe_int pa_nil))) pe_int) pe_int (nomark _)) (pw_and1 (pt_cmpR (op_neD hr.units) (pv 4) (pe_lst pa_nil) (nomark _)))))
    (pss_cons (ps_set (i := 6) nd rfl (Or.inl rfl) (pe_cd (d := d__law_popped) G__law_popped (hr.mono (by decide)) (pa_cons (pv 4) (pa_cons (pv 2) pa_nil))))
  (pss_cons (ps_if (pt_cmpR op_isN (pv 6) pe_non (nomark _))
    (pss_one (ps_ret pe_bl))
    pss_nil)
  (pss_one (ps_set (i := 4) nd rfl (Or.inl rfl) (pe_ix ix_tup (pv 6) pe_int (fun _ _ => rfl))))))
    pss_nil)
  (pss_cons (ps_set (i := 4) nd rfl (Or.inl rfl) (pe_cd (d := d__law_pushed) G__law_pushed (hr.mono (by decide)) (pa_cons (pv 4) (pa_cons (pv 5) (pa_cons (pv 2) pa_nil)))))
  (pss_one (ps_if (pt_cmpR op_isN (pv 4) pe_non (nomark _))
    (pss_one (ps_ret pe_bl))
    pss_nil)))))
  (pss_cons (ps_set (i := 7) nd rfl (Or.inr rfl) (pe_lst pa_nil))
  (pss_cons (ps_set (i := 8) nd rfl (Or.inl rfl) (pe_cdLent (d := d_heaped) G_heaped (hr.mono (by decide)) un hfn (pa_cons (pv 3) (pa_cons (pe_lam (T := T) (q := qlam) (show ("law.<locals>." : Str) ++ "<lambda>" = qlam by decide +kernel) TB rfl hm hu rfl (NdefX.ndef_free (sc := defScope st_law) (fr := ["_law_asked", "_law_way"]) (by decide +kernel))) pa_nil))))
  (pss_cons (ps_if (PW.pt (pw_or (pt_cmpR (op_neD hr.units) (pe_callB cr_sortedPO (by rfl) mSorted (by decide +kernel) (pa_cons (pv 8) pa_nil)) (pe_callB cr_sortedPO (by rfl) mSorted (by decide +kernel) (pa_cons (pv 3) pa_nil)) (nomark _)) (pw_or (pt_not (pt_val (pe_cd (d := d__law_is_heap) G__law_is_heap (hr.mono (by decide)) (pa_cons (pv 8) (pa_cons (pv 2) pa_nil))))) (pw_or1 (pt_cmpR op_gt (pe_len mLen (pv 7)) (pe_op op_mulE pe_int (pe_len mLen (pv 3))) (nomark _))))))
    (pss_one (ps_ret pe_bl))
    pss_nil)
  (pss_cons (ps_if (pt_not (pt_val (pe_cd (d := d__law_looked) G__law_looked (hr.mono (by decide)) (pa_cons (pv 3) (pa_cons (pv 2) pa_nil)))))
    (pss_one (ps_ret pe_bl))
    pss_nil)
  (pss_cons (ps_set (i := 9) nd rfl (Or.inr rfl) (pe_lst pa_nil))
  (pss_cons (ps_while PassesOwn.never (pt_cmpR (op_neD hr.units) (pv 8) (pe_lst pa_nil) (nomark _))
    (pss_cons (ps_set (i := 6) nd rfl (Or.inl rfl) (pe_cd (d := d__law_popped) G__law_popped (hr.mono (by decide)) (pa_cons (pv 8) (pa_cons (pv 2) pa_nil))))
  (pss_cons (ps_if (pt_cmpR op_isN (pv 6) pe_non (nomark _))
    (pss_one (ps_ret pe_bl))
    pss_nil)
  (pss_cons (ps_expr (pe_bm PySem.F.plainAttrs_list PySem.F.slot_list_append PySem.F.type_list_append mt_append (pv 9) (pa_cons (pe_ix ix_tup (pv 6) pe_int (fun _ _ => rfl)) pa_nil)))
  (pss_one (ps_set (i := 8) nd rfl (Or.inl rfl) (pe_ix ix_tup (pv 6) pe_int (fun _ _ => rfl))))))))
  (pss_one (ps_ret (pe_callB (cr_all rfl) (by rfl) mAll (by decide +kernel) (pa_cons (pe_lc (own := [("_law_k", 10)]) (g := gName 10) rfl nd (pi_range2 (by rfl) mRange (pa_cons pe_int (pa_cons (pe_len mLen (pv 9)) pa_nil))) (blkOk_by (own := [("_law_k", 10)]) (N := N_law) (sc := defScope st_law) (by decide +kernel)) (fun _ _ _ _ _ => pg_name (i := 10) nd rfl (Or.inl rfl)) (fun _ _ _ _ _ => pts_nil) (fun _ _ _ _ _ => (pe_cmpR op_le (pe_cd (d := d__law_answer) G__law_answer (hr.mono (by decide)) (pa_cons (pv 2) (pa_cons (pe_ix (ix_listK (K := K)) (pv 9) (pe_op op_subE (pv 10) pe_int) (fun _ _ => rfl)) (pa_cons (pe_ix (ix_listK (K := K)) (pv 9) (pv 10) (fun _ _ => rfl)) pa_nil)))) pe_int (nomark _)))) pa_nil))))))))))))))), ?_⟩
    have hz' : ns.length ≤ 1000 := by omega
    -- the draw
    refine ⟨_, rfl, a, ns, 0, rfl, hS, hz', fun H1 s1 => ⟨_, 1, rfl, ?_⟩⟩
    obtain ⟨m, em⟩ : ∃ m, m = Mir.drawn (Mir.cellI ns 0) 1 := ⟨_, rfl⟩
    have hd := Mir.drawn_nn (Mir.cellI ns 0) 1
    rw [← em] at hd ⊢
    obtain ⟨way, ew⟩ : ∃ way, way = m % 6 := ⟨_, rfl⟩
    refine ⟨_, rfl, _, _, way, rfl, rfl, (by show (0 : Int) < 6; decide), ew, ?_⟩
    -- the row
    refine ⟨_, rfl, _, rfl, a, ns, 40, rfl, s1.seq hS, hz', by decide, by decide, fun H2 n s2 hn => ?_⟩
    have s12 := s1.trans s2
    refine ⟨by show 4 ≤ sizeLine; decide, fun p np => ?_⟩
    have s13 := s12.trans (Same.new (o := .lst [.int 2, .int 5, .int 10, .int 1000]) np)
    obtain ⟨r, hr4, er⟩ : ∃ r : Nat, r < 4 ∧ m / 8 % 4 = (r : Int) := ⟨(m / 8 % 4).toNat, by omega, by omega⟩
    obtain ⟨spv, esp, hsp0, hsp1⟩ : ∃ spv : Int, atI [V.int 2, V.int 5, V.int 10, V.int 1000] (r : Int) = some (.int spv) ∧ 0 < spv ∧ spv ≤ 1000000 := by
      have hh : r = 0 ∨ r = 1 ∨ r = 2 ∨ r = 3 := by omega
      rcases hh with h | h | h | h <;> subst h
      · exact ⟨2, rfl, by decide, by decide⟩
      · exact ⟨5, rfl, by decide, by decide⟩
      · exact ⟨10, rfl, by decide, by decide⟩
      · exact ⟨1000, rfl, by decide, by decide⟩
    refine ⟨_, rfl, _, _, _, rfl, rfl, ⟨by decide, by decide⟩, rfl, _, _, (r : Int), rfl, rfl, (by show (0 : Int) < 4; decide), er.symm, p, _, _, _, rfl, rfl, SqL.of upd_same, esp, ?_⟩
    refine ⟨a, ns, 0, n, spv, rfl, s13.seq hS, hz', by omega, hsp0, hsp1, fun H3 rw xs cc s3 nrw hrw hxl hE hpl => ?_⟩
    have s14 := s13.trans s3
    have lx : xs.length ≤ 40 := by omega
    obtain ⟨key, ekey⟩ : ∃ key, key = kyc way cc := ⟨_, rfl⟩
    -- the loop
    refine ⟨Nat.zero_le _, fun hp0 n0 => ?_⟩
    have s15 := s14.trans (Same.new (o := .lst []) n0)
    have sh := Same.new (o := .lst []) n0
    refine ⟨_, rfl, rw, rfl, ⟨_, SqL.of (sh _ _ hrw)⟩, ?_⟩
    refine for_list (K := K) (a := rw) (xs := xs) (fun i σ H' => ∃ (hp : Addr) (v5 v6 : Option V) (hs : List V), σ = [some (.ref a), some (.int m), some (.int way), some (.ref rw), some (.ref hp), v5, v6, none, none, none, none] ∧ SqL K H' a (ns.map V.int) ∧ H' rw = some (.lst xs) ∧ Els cc xs H' ∧ Tabs T H' ∧ H' hp = some (.lst hs) ∧ (∀ z ∈ hs, z ∈ xs) ∧ hs.length ≤ i ∧ Mir.HeapOk key hs)
      ⟨hp0, none, none, [], rfl, s15.seq hS, sh _ _ hrw, hE.tk (Same.tk sh), Tabs.same hT s15, upd_same, (fun z hz => by cases hz), Nat.le_refl _, Mir.heap_nil [] (by simp)⟩ (fun i σ H' _ ⟨_, _, _, _, _, _, h, _⟩ => SqL.of h) ?_ ?_
    · rintro i x σ H' hi ⟨hp, v5, v6, hs, rfl, hS', hrw', hE', hT', hhp, hmem, hl, hH⟩
      have hxm := List.mem_of_getElem? hi
      have hil : i < xs.length := (List.getElem?_eq_some_iff.mp hi).1
      obtain ⟨xt, ext, hxt⟩ := (hE' x hxm).1
      rw [(hpl i x hi).1] at hxt
      refine ⟨fun σ H2 => ∃ (hp : Addr) (v6 : Option V) (hs : List V), σ = [some (.ref a), some (.int m), some (.int way), some (.ref rw), some (.ref hp), some x, v6, none, none, none, none] ∧ SqL K H2 a (ns.map V.int) ∧ H2 rw = some (.lst xs) ∧ Els cc xs H2 ∧ Tabs T H2 ∧ H2 hp = some (.lst hs) ∧ (∀ z ∈ hs, z ∈ xs) ∧ hs.length ≤ i ∧ Mir.HeapOk key hs, ?_, ?_⟩
      · refine ⟨_, rfl, _, rfl, xt, _, 1, .int (i : Int), ext, rfl, SqT.of hxt, rfl, a, ns, i, rfl, hS', hz', fun H4 s4 => ⟨_, 500, rfl, ?_⟩⟩
        have hd4 := Mir.drawn_nn (Mir.cellI ns i) 500
        refine ⟨_, _, Mir.drawn (Mir.cellI ns i) 500 % 7, rfl, rfl, (by show (0 : Int) < 7; decide), rfl, rfl, _, rfl, ?_⟩
        refine iteI (fun _ => ?_) (fun _ => iteF ⟨hp, v6, hs, rfl, s4.seq hS', s4 _ _ hrw', hE'.tk (Same.tk s4), Tabs.same hT' s4, s4 _ _ hhp, hmem, hl, hH⟩)
        refine ⟨_, rfl, Nat.zero_le _, fun p8 n8 => ?_⟩
        have s5 := s4.trans (Same.new (o := .lst []) n8)
        have hEh : Els cc hs (upd H4 p8 (.lst [])) := (hE'.tk (Same.tk s5)).sub hmem
        refine ⟨_, _, dp_row (SqL.of (s5 _ _ hhp)) hEh, .lst (SqL.of upd_same) .nil, shaped_row cc _, shaped_nil, _, rfl, ?_⟩
        rw [show (PyData.list []) = PyData.list ([].map fun x => pd (cc x)) from rfl, eqv_row]
        obtain ⟨H5, e5⟩ : ∃ H5, H5 = upd H4 p8 (.lst []) := ⟨_, rfl⟩
        rw [← e5] at s5 hEh ⊢
        clear e5 n8
        cases hs with
        | nil =>
          rw [decide_eq_true rfl]
          exact iteF ⟨hp, v6, [], rfl, s5.seq hS', s5 _ _ hrw', hE'.tk (Same.tk s5), Tabs.same hT' s5, s5 _ _ hhp, hmem, hl, hH⟩
        | cons h0 t =>
          rw [decide_eq_false (by simp)]
          refine iteT ?_
          have lt : t.length + 1 ≤ i := hl
          refine ⟨_, rfl, _, rfl, hp, h0, t, way, cc, rfl, s5 _ _ hhp, hEh, by omega, Tabs.same hT' s5, by rw [← ekey]; exact hH, fun H6 tu p6 zs x6 hT6 htu np6 hp6 hpm hk => ?_⟩
          have x7 := (ExtN.of_same s5).trans x6
          refine ⟨_, rfl, rfl, _, rfl, ?_⟩
          rw [show decide (V.ref tu = V.non) = false from decide_eq_false (by intro z; cases z)]
          refine iteF ?_
          refine ⟨_, rfl, tu, _, 1, .ref p6, rfl, rfl, SqT.of htu, rfl, ?_⟩
          have lz := hpm.length_eq
          exact ⟨p6, _, zs, rfl, ExtN.sq x7 hS', x7 _ _ hrw' lst_tbl, hE'.tk (ExtN.tk x7), hT6, hp6, fun z hz => hmem z (List.mem_cons_of_mem _ (hpm.subset hz)), by omega, by rw [ekey]; exact hk⟩
      rintro σ H2 ⟨hp, v6, hs, rfl, hS', hrw', hE', hT', hhp, hmem, hl, hH⟩
      refine ⟨_, rfl, _, rfl, _, rfl, hp, hs, x, way, cc, rfl, hhp, hE'.sub hmem, hE' x hxm, by omega, hT', by rw [← ekey]; exact hH, fun H6 p6 zs x6 hT6 hp6 hpm hk => ?_⟩
      refine ⟨_, rfl, rfl, _, rfl, ?_⟩
      rw [show decide (V.ref p6 = V.non) = false from decide_eq_false (by intro z; cases z)]
      refine iteF ?_
      have lz := hpm.length_eq
      rw [List.length_append, List.length_singleton] at lz
      refine ⟨p6, _, _, zs, rfl, ExtN.sq x6 hS', x6 _ _ hrw' lst_tbl, hE'.tk (ExtN.tk x6), hT6, hp6, fun z hz => ?_, by omega, by rw [ekey]; exact hk⟩
      rcases List.mem_append.mp (hpm.subset hz) with h | h
      · exact hmem z h
      · rw [List.mem_singleton.mp h]
        exact hxm
    rintro σ H4 ⟨hp, v5, v6, hs, rfl, hS', hrw', hE', hT', _⟩
    clear s15 sh s14 s13 s12 s3 s2 s1 hS hT hE hrw nrw n0 np
    -- heaped
    refine ⟨Nat.zero_le _, fun q nq => ?_⟩
    have sQ := Same.new (o := .lst []) nq
    have hq0 : upd H4 q (.lst []) q = some (.lst []) := upd_same
    have rwq : rw ≠ q := ne_of_none hrw' nq
    refine ⟨_, rfl, Tabs.same hT' sQ, fun f c' pm ctv H8 ext nn T8 f0 f8 c8 => ?_⟩
    intro H9 L
    have hq8 : H8 q = some (.lst []) := ext _ _ hq0 lst_tbl
    have hr8 : H8 rw = some (.lst xs) := ext _ _ (sQ _ _ hrw') lst_tbl
    have hE8 : Els cc xs H8 := (hE'.tk (Same.tk sQ)).tk (ExtN.tk ext)
    let O : Orc P w K mg base := orcAt f8 ["_law_one", "_law_other"] ["_law_asked", "_law_way"] [some (.ref q), some (.int way)] (fun _ x y => Mir.ansI way (cc x) (cc y)) (El cc) (NdefX.nscope_by (by decide +kernel)) rfl rfl
      (fun us hl => match us, hl with | [_, _], _ => rfl) (fun k h => h.tk k)
      (fun A outer s H0 hr => pe_cd (d := d__law_ask) G__law_ask hr (pa_cons (pv 2) (pa_cons (pv 3) (pa_cons (pv 0) (pa_cons (pv 1) pa_nil)))))
      (fun x y l qs H Q h1 h2 h3 dx dy hQ => ⟨_, rfl, _, rfl, _, rfl, _, rfl, q, way, x, y, cc x, cc y, qs, rfl, h1, by have := h2.length; omega, dx.1, dy.1, dx.2.1, dy.2.1, hQ⟩)
    have kA : Mir.KeyA O.ans (kyc way cc) := Mir.keyA_of way cc
    refine ⟨O, rw, xs, [], rfl, Row.of (L.keep hr8) rwq, L.log (js := [7, 2]) (NdefX.ndef_free (sc := defScope st_law) (fr := ["_law_asked", "_law_way"]) (by decide +kernel)) (NdefX.ndef_fr (sc := defScope st_law) (fr := ["_law_asked", "_law_way"]) (by decide +kernel)) rfl f8 c8 hq8 .nil, fun x hx => (hE8 x hx).tk (Same.tk L.same), by omega, by simp only [List.length_nil]; omega, fun H10 p zs l1 kb np hp hL hl hpm hk => ?_⟩
    have hk := hk _ kA
    obtain ⟨_, _, _, qs, hq10, lg10⟩ := hL
    have kbF := L.kb kb
    have nfz := lst_nfz (L.keep hq8)
    refine lentQ_of (F := fun H11 => Tabs T H11 ∧ (∃ qs, H11 q = some (.lst qs) ∧ qs.length = l1.length) ∧ H11 rw = some (.lst xs) ∧ H11 p = some (.lst zs) ∧ Els cc xs H11) ⟨Tabs.kb1 T8 hq8 kbF, ⟨qs, L.at3 nfz kb hq10 lst_fz, lg10.length⟩, kbF.keep _ _ rwq hr8, L.at3 nfz kb hp lst_fz, hE8.tk kbF.tk⟩ fun Z1 ⟨hT1, ⟨qs1, hq1, lq1⟩, hr1, hp1, hE1⟩ => ?_
    clear hq10 lg10 kbF kb nfz L hE8 hr8 hq8 c8 f0 T8 nn ext hq0 sQ np hp hT' hE' hrw' hS' nq
    have lz := hpm.length_eq
    have hEz : Els cc zs Z1 := hE1.sub fun y hy => hpm.subset hy
    -- sorted
    refine ⟨_, rfl, p, zs, cc, rfl, SqL.of hp1, fun y hy => (hEz y hy).1, fun us r1 srt1 stb1 nr1 => ?_⟩
    have s3 := Same.new (o := .lst us) nr1
    refine ⟨_, rfl, rw, xs, cc, rfl, SqL.of (s3 _ _ hr1), fun y hy => ((hE1.tk (Same.tk s3)) y hy).1, fun vs2 r2 srt2 stb2 nr2 => ?_⟩
    have s4 := s3.trans (Same.new (o := .lst vs2) nr2)
    have hu2 : upd (upd Z1 r1 (.lst us)) r2 (.lst vs2) r1 = some (.lst us) := kn nr2 upd_same
    have hv2 : upd (upd Z1 r1 (.lst us)) r2 (.lst vs2) r2 = some (.lst vs2) := upd_same
    obtain ⟨Z2, e2⟩ : ∃ Z2, Z2 = upd (upd Z1 r1 (.lst us)) r2 (.lst vs2) := ⟨_, rfl⟩
    rw [← e2] at s4 hu2 hv2 ⊢
    clear e2 s3 nr2 nr1
    have hE2 := hE1.tk (Same.tk s4)
    refine ⟨_, _, dp_row (SqL.of hu2) (hE2.sub fun y hy => hpm.subset (stb1.perm.subset hy)), dp_row (SqL.of hv2) (hE2.sub fun y hy => stb2.perm.subset hy), shaped_row cc _, shaped_row cc _, _, rfl, ?_⟩
    rw [eqv_row, decide_eq_true (sorted_eq srt1 stb1 srt2 stb2 hpm)]
    refine iteF ?_
    -- the law's look
    refine ⟨_, rfl, _, rfl, p, zs, way, cc, rfl, SqL.of (s4 _ _ hp1), hEz.tk (Same.tk s4), by omega, fun Z3 b s5 hb => ?_⟩
    rw [hb.mpr hk]
    refine ⟨_, rfl, iteF ?_⟩
    have s6 := s4.trans s5
    refine ⟨_, rfl, q, qs1, rfl, .inl (SqL.of (s6 _ _ hq1)), _, rfl, rw, xs, rfl, .inl (SqL.of (s6 _ _ hr1)), _, _, ((2 * xs.length : Nat) : Int), rfl, rfl, .inl ⟨by decide, by decide⟩, (by show ((2 * xs.length : Nat) : Int) = 2 * (xs.length : Int); omega), _, _, rfl, rfl, _, rfl, ?_⟩
    refine iteD (fun h => ?_) (fun _ => ?_)
    · have h' : ((2 * xs.length : Nat) : Int) < (qs1.length : Int) := h
      simp only [List.length_nil] at hl
      omega
    -- looked
    refine ⟨_, rfl, _, rfl, rw, xs, way, cc, rfl, s6 _ _ hr1, hE1.tk (Same.tk s6), by omega, Tabs.same hT1 s6, fun Z4 x4 hT4 => ?_⟩
    refine ⟨_, rfl, iteF ?_⟩
    have x5 := (ExtN.of_same s6).trans x4
    have hp4 := x5 _ _ hp1 lst_tbl
    have hE4 := hE1.tk (ExtN.tk x5)
    clear x5 x4 s6 s5 s4 hEz hE2 hu2 hv2 hE1 hp1 hr1 hq1 hT1 hb
    -- popped to the end
    refine ⟨Nat.zero_le _, fun cp ncp => ?_⟩
    have sC := Same.new (o := .lst []) ncp
    have hcp : upd Z4 cp (.lst []) cp = some (.lst []) := upd_same
    refine ⟨fun mu σ H' => ∃ (tp : Addr) (v6 : Option V) (ts cs : List V), σ = [some (.ref a), some (.int m), some (.int way), some (.ref rw), some (.ref hp), v5, v6, some (.ref q), some (.ref tp), some (.ref cp), none] ∧ mu = ts.length ∧ H' tp = some (.lst ts) ∧ H' cp = some (.lst cs) ∧ Els cc xs H' ∧ Tabs T H' ∧ (∀ z ∈ ts, z ∈ xs) ∧ (∀ z ∈ cs, z ∈ xs) ∧ ts.length + cs.length = xs.length ∧ tp ≠ cp ∧ Mir.HeapOk key ts ∧ Mir.Srt key cs ∧ ∀ x ∈ cs, ∀ y ∈ ts, key x ≤ key y,
      ⟨_, p, v6, zs, [], rfl, rfl, sC _ _ hp4, hcp, hE4.tk (Same.tk sC), Tabs.same hT4 sC, fun z hz => hpm.subset hz, (fun z hz => by cases hz), by rw [List.length_nil]; omega, ne_of_none hp4 ncp, by rw [ekey]; exact hk, List.Pairwise.nil, fun x hx => by cases hx⟩, ?_⟩
    rintro mu σ H' ⟨tp, v6, ts, cs, rfl, rfl, htp, hcp, hE', hT', hts, hcs, hlen, tcp, hH, hSr, hbt⟩
    refine ⟨_, rfl, Nat.zero_le _, fun p8 n8 => ?_⟩
    have s5 := Same.new (o := .lst []) n8
    have hEt : Els cc ts (upd H' p8 (.lst [])) := (hE'.tk (Same.tk s5)).sub hts
    refine ⟨_, _, dp_row (SqL.of (s5 _ _ htp)) hEt, .lst (SqL.of upd_same) .nil, shaped_row cc _, shaped_nil, _, rfl, ?_⟩
    rw [show (PyData.list []) = PyData.list ([].map fun x => pd (cc x)) from rfl, eqv_row]
    obtain ⟨H5, e5⟩ : ∃ H5, H5 = upd H' p8 (.lst []) := ⟨_, rfl⟩
    rw [← e5] at s5 hEt ⊢
    clear e5 n8
    cases ts with
    | cons h0 t =>
      rw [decide_eq_false (by simp)]
      refine iteT ⟨_, fun _ _ h => h, ?_⟩
      have lt : (h0 :: t).length = t.length + 1 := rfl
      refine ⟨_, rfl, _, rfl, tp, h0, t, way, cc, rfl, s5 _ _ htp, hEt, by omega, Tabs.same hT' s5, by rw [← ekey]; exact hH, fun H6 tu p6 ws x6 hT6 htu np6 hp6 hpm6 hk6 => ?_⟩
      have x7 := (ExtN.of_same s5).trans x6
      have hcp6 := x7 _ _ hcp lst_tbl
      refine ⟨_, rfl, rfl, _, rfl, ?_⟩
      rw [show decide (V.ref tu = V.non) = false from decide_eq_false (by intro z; cases z)]
      refine iteF ?_
      refine ⟨_, rfl, .inl ⟨rfl, _, SqL.of hcp6⟩, _, rfl, tu, _, 0, h0, rfl, rfl, SqT.of htu, rfl, cp, cs, _, rfl, rfl, hcp6, small1000 (by omega), ?_⟩
      have k8 : TK H6 (upd H6 cp (.lst (cs ++ [h0]))) := TK.wr hcp6 nf_lst
      have p6c : p6 ≠ cp := fun z => by
        rw [z, s5 _ _ hcp] at np6
        cases np6
      refine ⟨_, rfl, tu, _, 1, .ref p6, rfl, rfl, SqT.of (k8 _ _ htu), rfl, ?_⟩
      have lw := hpm6.length_eq
      have tT : ∀ pt ∈ T, pt.1 ≠ cp := tbl_ne hcp6 hT6
      have hT8 : Tabs T (upd H6 cp (.lst (cs ++ [h0]))) := fun pt hpt => by
        obtain ⟨ps, h1, h2, h3⟩ := hT6 pt hpt
        refine ⟨ps, (upd_ne (tT pt hpt)).trans h1, h2, fun pos cv e => ?_⟩
        obtain ⟨cx, e1, e2⟩ := h3 pos cv e
        exact ⟨cx, e1, (upd_ne (code_ne hcp6 e2)).trans e2⟩
      refine ⟨_, by rw [lw, lt]; omega, p6, _, ws, cs ++ [h0], rfl, rfl, (upd_ne p6c).trans hp6, upd_same, (hE'.tk (ExtN.tk x7)).tk k8, hT8, fun z hz => hts z (List.mem_cons_of_mem _ (hpm6.subset hz)), fun z hz => ?_, by rw [List.length_append, List.length_singleton]; omega, p6c, by rw [ekey]; exact hk6, ?_, fun x hx y hy => ?_⟩
      · rcases List.mem_append.mp hz with h | h
        · exact hcs z h
        · rw [List.mem_singleton.mp h]
          exact hts h0 List.mem_cons_self
      · refine List.pairwise_append.mpr ⟨hSr, List.pairwise_singleton _ _, fun x hx y hy => ?_⟩
        rw [List.mem_singleton.mp hy]
        exact hbt x hx h0 List.mem_cons_self
      · have hy' : y ∈ t := hpm6.subset hy
        rcases List.mem_append.mp hx with h | h
        · exact hbt x h y (List.mem_cons_of_mem _ hy')
        · rw [List.mem_singleton.mp h]
          obtain ⟨j, hj⟩ := List.mem_iff_getElem?.mp (List.mem_cons_of_mem h0 hy')
          exact Mir.heap_root hH rfl j y hj
    | nil =>
      rw [decide_eq_true rfl]
      refine iteF ?_
      have hcp5 := s5 _ _ hcp
      have hE5 := hE'.tk (Same.tk s5)
      rw [List.length_nil, Nat.zero_add] at hlen
      refine ⟨_, rfl, cp, cs, rfl, .inl (SqL.of hcp5), (1 : Int), (cs.length : Int), rfl, ⟨by omega, by omega, by omega, by omega⟩, fun D hD => ?_⟩
      refine lc_range (lo := 1) (n := ((cs.length : Int) - 1).toNat) (fun i H3 => Same H5 H3 ∧ H3 D = some (.lst ((List.replicate i true).map V.bl))) ⟨Same.new hD, upd_same⟩ ?_ ?_
      · rintro i H3 hi ⟨s3, h3⟩
        rw [show ((1 : Int) + (i : Nat)) = ((i + 1 : Nat) : Int) by omega]
        obtain ⟨x, ex⟩ : ∃ x, cs[i]? = some x := ⟨_, List.getElem?_eq_getElem (by omega)⟩
        obtain ⟨y, ey⟩ : ∃ y, cs[i + 1]? = some y := ⟨_, List.getElem?_eq_getElem (by omega)⟩
        have hx := (hE5 x (hcs x (List.mem_of_getElem? ex))).tk (Same.tk s3)
        have hy := (hE5 y (hcs y (List.mem_of_getElem? ey))).tk (Same.tk s3)
        have hS3 : SqL K H3 cp cs := SqL.of (s3 _ _ hcp5)
        refine ⟨rfl, ?_⟩
        refine ⟨_, rfl, _, rfl, _, rfl, _, _, (i : Int), rfl, rfl, (by show (i : Int) = ((i + 1 : Nat) : Int) - 1; omega), cp, cs, _, x, rfl, rfl, hS3, atI_nat ex, _, rfl, _, rfl, cp, cs, _, y, rfl, rfl, hS3, atI_nat ey, way, x, y, cc x, cc y, rfl, hx.1, hy.1, hx.2.1, hy.2.1, ?_⟩
        refine ⟨_, _, rfl, rfl, ?_⟩
        dsimp only
        have kxy : key x ≤ key y := Mir.srt_get hSr (Nat.le_succ i) ex ey
        have ea : Mir.ansI way (cc x) (cc y) ≤ 0 := (kA.le [] x y).mpr (by rw [← ekey]; exact kxy)
        rw [show decide (Mir.ansI way (cc x) (cc y) ≤ 0) = true from decide_eq_true ea]
        refine ⟨_, h3, small1000 (by rw [List.length_map, List.length_replicate]; omega), fun b o e => ?_, ?_⟩
        · rw [upd_ne (ne_of_none e hD)]
          exact s3 _ _ e
        · rw [upd_same, List.replicate_succ', List.map_append]
          rfl
      · rintro H3 ⟨s3, h3⟩
        refine ⟨D, _, rfl, SqL.of h3, ?_⟩
        rw [show (List.replicate ((cs.length : Int) - 1).toNat true).all id = true from by simp]
        exact hQ _
end
end Ord

namespace Ord
open PySem PySem.Spec PyProof.Rows L2 LamX
theorem toFun {K : PySem.W.Frag} {x qual : Str} {st : Stmt} {f : Addr} {fd : FuncData} (F : FunD K x qual (defArgs st) (defBody st) (defScope st) [] [] f fd) : Fun K x qual st f fd := by
  obtain ⟨oc, od, dV, kV, doc, pm, an, cdv, ct, osl, e, lk, hcd, hD, hK⟩ := F.ex
  rcases hD with ⟨_, rfl⟩ | ⟨z, _⟩
  · exact ⟨⟨oc, od, kV, doc, pm, an, cdv, ct, osl, e, lk, hcd⟩, F.kp⟩
  · exact absurd rfl z
theorem df_of {K : PySem.W.Frag} {mg : Str → Option Value} {x : Str} {st : Stmt} {ps : List Str} (h : ∃ fd, FunD K x x (defArgs st) (defBody st) (defScope st) [] [] (He.fAd K (x, none)) fd) (g : mg x = some (.ref (He.ga K x)))
    (hb : ∀ (kV doc pm : Value) (an : Option Addr) (cdv ct : Value) (us : List Value), us.length = ps.length → bindArgs (PySem.W.fnOf x x (defArgs st) (defBody st) (defScope st) .none kV doc pm an cdv ct) ⟨us, []⟩ = pure (ps.zip us)) :
    ∃ d : Df K mg x st ps, d.f = He.fAd K (x, none) := by
  obtain ⟨fd, F⟩ := h
  exact ⟨⟨_, fd, toFun F, g, (toFun F).binds hb⟩, rfl⟩
theorem df_code {K : PySem.W.Frag} {mg : Str → Option Value} {x : Str} {st : Stmt} {ps : List Str} (d : Df K mg x st ps) (e : d.f = He.fAd K (x, none)) : d.fd.code = .ref (He.cT K (x, none)).1 := by
  obtain ⟨oc, od, kV, doc, pm, an, cdv, ct, osl, e1, lk, hcd⟩ := d.F.ex
  obtain ⟨c, ec⟩ := He.codeIn_ref hcd
  have e2 : d.fd.code = .ref c := by rw [e1]; exact ec
  rw [e] at lk
  have e3 : He.codeOf K (x, none) = c := He.codeOf_eq lk e2
  rw [e2]
  show _ = Value.ref (He.codeOf K (x, none))
  rw [e3]
theorem df_bind {K : PySem.W.Frag} {mg : Str → Option Value} {x : Str} {st : Stmt} (d : Df K mg x st [y])
    (hb : ∀ (kV doc pm : Value) (an : Option Addr) (cdv ct : Value) (us : List Value), us.length = 1 → bindArgs (PySem.W.fnOf x x (defArgs st) (defBody st) (defScope st) .none kV doc pm an cdv ct) ⟨us, []⟩ = pure ([y].zip us)) : ∀ (s : Shared) (u : Value), BindsTo s d.fd ⟨[u], []⟩ [(y, u)] := by
  intro s u
  obtain ⟨oc, od, kV, doc, pm, an, cdv, ct, osl, e1, lk, hcd⟩ := d.F.ex
  rw [e1]
  exact .of_eq (hb kV doc pm an cdv ct [u] rfl)
end Ord

namespace Ord
open PySem PySem.Spec PyProof.Rows L2 LamX
def dd_is_heap : He.DefD := ⟨("is_heap", none), "is_heap", "is_heap", defArgs st_is_heap, defBody st_is_heap, defScope st_is_heap, [], []⟩
def dd_push : He.DefD := ⟨("push", none), "push", "push", defArgs st_push, defBody st_push, defScope st_push, [], []⟩
def dd_sunk : He.DefD := ⟨("sunk", none), "sunk", "sunk", defArgs st_sunk, defBody st_sunk, defScope st_sunk, [], []⟩
def dd_pop : He.DefD := ⟨("pop", none), "pop", "pop", defArgs st_pop, defBody st_pop, defScope st_pop, [], []⟩
def dd_heaped : He.DefD := ⟨("heaped", none), "heaped", "heaped", defArgs st_heaped, defBody st_heaped, defScope st_heaped, [], []⟩
def dd__law_cell : He.DefD := ⟨("_law_cell", none), "_law_cell", "_law_cell", defArgs st__law_cell, defBody st__law_cell, defScope st__law_cell, [], []⟩
def dd__law_drawn : He.DefD := ⟨("_law_drawn", none), "_law_drawn", "_law_drawn", defArgs st__law_drawn, defBody st__law_drawn, defScope st__law_drawn, [], []⟩
def dd__law_answer : He.DefD := ⟨("_law_answer", none), "_law_answer", "_law_answer", defArgs st__law_answer, defBody st__law_answer, defScope st__law_answer, [], []⟩
def dd__law_ask : He.DefD := ⟨("_law_ask", none), "_law_ask", "_law_ask", defArgs st__law_ask, defBody st__law_ask, defScope st__law_ask, [], []⟩
def dd__law_log : He.DefD := ⟨("_law_log", none), "_law_log", "_law_log", defArgs st__law_log, defBody st__law_log, defScope st__law_log, [], []⟩
def dd__law_row : He.DefD := ⟨("_law_row", none), "_law_row", "_law_row", defArgs st__law_row, defBody st__law_row, defScope st__law_row, [], []⟩
def dd__law_size : He.DefD := ⟨("_law_size", none), "_law_size", "_law_size", defArgs st__law_size, defBody st__law_size, defScope st__law_size, [], []⟩
def dd__law_sorted : He.DefD := ⟨("_law_sorted", none), "_law_sorted", "_law_sorted", defArgs st__law_sorted, defBody st__law_sorted, defScope st__law_sorted, [], []⟩
def dd__law_is_heap : He.DefD := ⟨("_law_is_heap", none), "_law_is_heap", "_law_is_heap", defArgs st__law_is_heap, defBody st__law_is_heap, defScope st__law_is_heap, [], []⟩
def dd__law_looked : He.DefD := ⟨("_law_looked", none), "_law_looked", "_law_looked", defArgs st__law_looked, defBody st__law_looked, defScope st__law_looked, [], []⟩
def dd__law_pushed : He.DefD := ⟨("_law_pushed", none), "_law_pushed", "_law_pushed", defArgs st__law_pushed, defBody st__law_pushed, defScope st__law_pushed, [], []⟩
def dd__law_popped : He.DefD := ⟨("_law_popped", none), "_law_popped", "_law_popped", defArgs st__law_popped, defBody st__law_popped, defScope st__law_popped, [], []⟩
def dd_law : He.DefD := ⟨("law", none), "law", "law", defArgs st_law, defBody st_law, defScope st_law, [], []⟩
def fnL : List He.DefD := [dd_is_heap, dd_push, dd_sunk, dd_pop, dd_heaped, dd__law_cell, dd__law_drawn, dd__law_answer, dd__law_ask, dd__law_log, dd__law_row, dd__law_size, dd__law_sorted, dd__law_is_heap, dd__law_looked, dd__law_pushed, dd__law_popped, dd_law]
def faL : List He.Fa := [.glo "is_heap", .glo "push", .glo "sunk", .glo "pop", .glo "heaped", .glo "_law_cell", .glo "_law_drawn", .glo "_law_answer", .glo "_law_ask", .glo "_law_log", .glo "_law_row", .glo "_law_size", .glo "_law_sorted", .glo "_law_is_heap", .glo "_law_looked", .glo "_law_pushed", .glo "_law_popped", .glo "law", .free "len", .free "list", .free "int", .free "abs", .free "min", .free "max", .free "range", .free "all", .free "isinstance", .free "bool", .free "tuple", .free "sorted"]
def tfL : List He.Defn := [("law", none), ("_law_looked", none), ("_law_pushed", none), ("_law_popped", none)]
abbrev exL : PySem.W.Frag → Bool := fun K => decide ((tfL.map fun p => (He.cT K p).2).Nodup)
abbrev RR : PySem.W.OpenRow := PySem.W.OpenLaw.row PySem.Challenge.rw_yourorder_k15_whole_heaps
abbrev hkL : PySem.W.Hook := He.hookX 4 faL fnL [] tfL exL
def obL (s : PySem.W.SharedT) : He.AlX := He.obsX 4 faL fnL [] tfL exL (HandSHeadRun.getT s)
theorem obL_eq (s : PySem.W.SharedT) : obL s = hkL.obs s.abs := He.obsX_eq (HandSHeadRun.getT_eq s)
theorem runL (w : World) : HandSHeadRun.RunEq RR (PySem.W.view RR.prog [22]) hkL obL 20000 ["is_heap", "push", "sunk", "pop", "heaped", "_law_cell", "_law_drawn", "_law_answer", "_law_ask", "_law_log", "_law_row", "_law_size", "_law_sorted", "_law_is_heap", "_law_looked", "_law_pushed", "_law_popped", "OrderError", "NoElement", "NoPlace"] w := by
  intro os
  kernel_rfl
theorem factsL {P : Program} {w : World} {K : PySem.W.Frag} {h : Heap} {mg : Str → Option Value} {f : Addr} (X : K.In h) (G : h.Ns mainGlobals mg) (hfa : mg ("law" : Str) = some (.ref f)) (cc : He.SaysX faL fnL [] tfL exL w h K) :
    ∃ fd : FuncData, (∀ (s : Shared) (u : Value), BindsTo s fd ⟨[u], []⟩ [("_law_script", u)]) ∧ ∀ base : Heap, K.In base → base.Ns mainGlobals mg → (∀ p ∈ tfL.map (He.cT K), TabB base mg p.1 p.2) → FnOk P w K mg base CX0 20 f fd ["_law_script"] (spLaw K (He.cT K ("law", none)).2 (He.cT K ("_law_looked", none)).2 (He.cT K ("_law_pushed", none)).2 (He.cT K ("_law_popped", none)).2) := by
  have c := cc.t.d
  obtain ⟨d_is_heap, e_is_heap⟩ := df_of (st := st_is_heap) (ps := ["row", "order"]) (c.def_ 0 (d := dd_is_heap) rfl) (He.glo_ok X G (c.fact 0 (f := .glo "is_heap") rfl)) (fun _ _ _ _ _ _ us hl => match us, hl with | [_, _], _ => rfl)
  obtain ⟨d_push, e_push⟩ := df_of (st := st_push) (ps := ["heap", "new", "order"]) (c.def_ 1 (d := dd_push) rfl) (He.glo_ok X G (c.fact 1 (f := .glo "push") rfl)) (fun _ _ _ _ _ _ us hl => match us, hl with | [_, _, _], _ => rfl)
  obtain ⟨d_sunk, e_sunk⟩ := df_of (st := st_sunk) (ps := ["row", "place", "order"]) (c.def_ 2 (d := dd_sunk) rfl) (He.glo_ok X G (c.fact 2 (f := .glo "sunk") rfl)) (fun _ _ _ _ _ _ us hl => match us, hl with | [_, _, _], _ => rfl)
  obtain ⟨d_pop, e_pop⟩ := df_of (st := st_pop) (ps := ["heap", "order"]) (c.def_ 3 (d := dd_pop) rfl) (He.glo_ok X G (c.fact 3 (f := .glo "pop") rfl)) (fun _ _ _ _ _ _ us hl => match us, hl with | [_, _], _ => rfl)
  obtain ⟨d_heaped, e_heaped⟩ := df_of (st := st_heaped) (ps := ["row", "order"]) (c.def_ 4 (d := dd_heaped) rfl) (He.glo_ok X G (c.fact 4 (f := .glo "heaped") rfl)) (fun _ _ _ _ _ _ us hl => match us, hl with | [_, _], _ => rfl)
  obtain ⟨d__law_cell, e__law_cell⟩ := df_of (st := st__law_cell) (ps := ["_law_script", "_law_k"]) (c.def_ 5 (d := dd__law_cell) rfl) (He.glo_ok X G (c.fact 5 (f := .glo "_law_cell") rfl)) (fun _ _ _ _ _ _ us hl => match us, hl with | [_, _], _ => rfl)
  obtain ⟨d__law_drawn, e__law_drawn⟩ := df_of (st := st__law_drawn) (ps := ["_law_cell_here", "_law_k"]) (c.def_ 6 (d := dd__law_drawn) rfl) (He.glo_ok X G (c.fact 6 (f := .glo "_law_drawn") rfl)) (fun _ _ _ _ _ _ us hl => match us, hl with | [_, _], _ => rfl)
  obtain ⟨d__law_answer, e__law_answer⟩ := df_of (st := st__law_answer) (ps := ["_law_way", "_law_one", "_law_other"]) (c.def_ 7 (d := dd__law_answer) rfl) (He.glo_ok X G (c.fact 7 (f := .glo "_law_answer") rfl)) (fun _ _ _ _ _ _ us hl => match us, hl with | [_, _, _], _ => rfl)
  obtain ⟨d__law_ask, e__law_ask⟩ := df_of (st := st__law_ask) (ps := ["_law_asked", "_law_way", "_law_one", "_law_other"]) (c.def_ 8 (d := dd__law_ask) rfl) (He.glo_ok X G (c.fact 8 (f := .glo "_law_ask") rfl)) (fun _ _ _ _ _ _ us hl => match us, hl with | [_, _, _, _], _ => rfl)
  obtain ⟨d__law_log, e__law_log⟩ := df_of (st := st__law_log) (ps := ["_law_many"]) (c.def_ 9 (d := dd__law_log) rfl) (He.glo_ok X G (c.fact 9 (f := .glo "_law_log") rfl)) (fun _ _ _ _ _ _ us hl => match us, hl with | [_], _ => rfl)
  obtain ⟨d__law_row, e__law_row⟩ := df_of (st := st__law_row) (ps := ["_law_script", "_law_start", "_law_many", "_law_spread"]) (c.def_ 10 (d := dd__law_row) rfl) (He.glo_ok X G (c.fact 10 (f := .glo "_law_row") rfl)) (fun _ _ _ _ _ _ us hl => match us, hl with | [_, _, _, _], _ => rfl)
  obtain ⟨d__law_size, e__law_size⟩ := df_of (st := st__law_size) (ps := ["_law_script", "_law_most"]) (c.def_ 11 (d := dd__law_size) rfl) (He.glo_ok X G (c.fact 11 (f := .glo "_law_size") rfl)) (fun _ _ _ _ _ _ us hl => match us, hl with | [_, _], _ => rfl)
  obtain ⟨d__law_is_heap, e__law_is_heap⟩ := df_of (st := st__law_is_heap) (ps := ["_law_row_here", "_law_way"]) (c.def_ 13 (d := dd__law_is_heap) rfl) (He.glo_ok X G (c.fact 13 (f := .glo "_law_is_heap") rfl)) (fun _ _ _ _ _ _ us hl => match us, hl with | [_, _], _ => rfl)
  obtain ⟨d__law_looked, e__law_looked⟩ := df_of (st := st__law_looked) (ps := ["_law_row_here", "_law_way"]) (c.def_ 14 (d := dd__law_looked) rfl) (He.glo_ok X G (c.fact 14 (f := .glo "_law_looked") rfl)) (fun _ _ _ _ _ _ us hl => match us, hl with | [_, _], _ => rfl)
  obtain ⟨d__law_pushed, e__law_pushed⟩ := df_of (st := st__law_pushed) (ps := ["_law_heap", "_law_element", "_law_way"]) (c.def_ 15 (d := dd__law_pushed) rfl) (He.glo_ok X G (c.fact 15 (f := .glo "_law_pushed") rfl)) (fun _ _ _ _ _ _ us hl => match us, hl with | [_, _, _], _ => rfl)
  obtain ⟨d__law_popped, e__law_popped⟩ := df_of (st := st__law_popped) (ps := ["_law_heap", "_law_way"]) (c.def_ 16 (d := dd__law_popped) rfl) (He.glo_ok X G (c.fact 16 (f := .glo "_law_popped") rfl)) (fun _ _ _ _ _ _ us hl => match us, hl with | [_, _], _ => rfl)
  obtain ⟨d_law, e_law⟩ := df_of (st := st_law) (ps := ["_law_script"]) (c.def_ 17 (d := dd_law) rfl) (He.glo_ok X G (c.fact 17 (f := .glo "law") rfl)) (fun _ _ _ _ _ _ us hl => match us, hl with | [_], _ => rfl)
  have e := hfa.symm.trans d_law.g
  cases e
  refine ⟨d_law.fd, df_bind d_law (fun _ _ _ _ _ _ us hl => match us, hl with | [_], _ => rfl), fun base hK hG hT => ?_⟩
  exact ok_law d_law d_is_heap d_push d_sunk d_pop d_heaped d__law_cell d__law_drawn d__law_answer d__law_ask d__law_log d__law_row d__law_size d__law_is_heap d__law_looked d__law_pushed d__law_popped (of_decide_eq_true cc.more) (He.free_ok X G (c.fact 18 (f := .free "len") rfl)) (He.free_ok X G (c.fact 19 (f := .free "list") rfl)) (He.free_ok X G (c.fact 20 (f := .free "int") rfl)) (He.free_ok X G (c.fact 21 (f := .free "abs") rfl)) (He.free_ok X G (c.fact 22 (f := .free "min") rfl)) (He.free_ok X G (c.fact 23 (f := .free "max") rfl)) (He.free_ok X G (c.fact 24 (f := .free "range") rfl)) (He.free_ok X G (c.fact 25 (f := .free "all") rfl)) (He.free_ok X G (c.fact 26 (f := .free "isinstance") rfl)) (He.free_ok X G (c.fact 27 (f := .free "bool") rfl)) (He.free_ok X G (c.fact 28 (f := .free "tuple") rfl)) (He.free_ok X G (c.fact 29 (f := .free "sorted") rfl)) (hT (He.cT K ("law", none)) (List.mem_map.mpr ⟨("law", none), by simp [tfL], rfl⟩)) (hT (He.cT K ("_law_looked", none)) (List.mem_map.mpr ⟨("_law_looked", none), by simp [tfL], rfl⟩)) (hT (He.cT K ("_law_pushed", none)) (List.mem_map.mpr ⟨("_law_pushed", none), by simp [tfL], rfl⟩)) (hT (He.cT K ("_law_popped", none)) (List.mem_map.mpr ⟨("_law_popped", none), by simp [tfL], rfl⟩)) (df_code d_law e_law) (df_code d__law_looked e__law_looked) (df_code d__law_pushed e__law_pushed) (df_code d__law_popped e__law_popped)
end Ord
open PySem PySem.W PySem.Calls PyProof.Rows
theorem PySem.Challenge.cw_yourorder_k15_whole_heaps_holds : PySem.Challenge.rw_yourorder_k15_whole_heaps.Holds := by
  w_on; o_law
  refine HandSHeadRun.head_any (r := OpenLaw.row PySem.Challenge.rw_yourorder_k15_whole_heaps) (q := view (OpenLaw.row PySem.Challenge.rw_yourorder_k15_whole_heaps).prog [22]) (H := Ord.hkL) (ob := Ord.obL) (M := 20000) (loose := ["is_heap", "push", "sunk", "pop", "heaped", "_law_cell", "_law_drawn", "_law_answer", "_law_ask", "_law_log", "_law_row", "_law_size", "_law_sorted", "_law_is_heap", "_law_looked", "_law_pushed", "_law_popped", "OrderError", "NoElement", "NoPlace"]) (d := HandSHeadRun.topDef (OpenLaw.row PySem.Challenge.rw_yourorder_k15_whole_heaps).prog 22) (kwd := []) Ord.obL_eq
    (by kernel_rfl) (fun s => by kernel_rfl) Ord.runL (by kernel_rfl) (by kernel_rfl) (by kernel_rfl) (by rfl) (by first | assumption | decide +kernel) (by decide +kernel) ⟨rfl, rfl, rfl, rfl, rfl, by decide +kernel⟩ ?hw ?hc
  case hw => w_witness2
  case hc =>
    refine LamX.walk_ofTsE (l := PySem.Challenge.rw_yourorder_k15_whole_heaps) (n := 63) (k := 20) (x := "_law_script") (CX := fun _ => L2.CX0) rfl (by decide) (by kernel_rfl) ⟨rfl, by decide, by decide⟩ ?F (fun _ _ _ _ _ z => z)
    intro w mg fa h Y G hmg0
    obtain ⟨K, KX, c⟩ := Y
    have hmg : mg ("law" : PySem.Str) = some (.ref fa) := by
      have e : (HandSHeadRun.topDef (OpenLaw.row PySem.Challenge.rw_yourorder_k15_whole_heaps).prog 22).name = ("law" : PySem.Str) := by kernel_rfl
      rw [← e]
      exact hmg0
    obtain ⟨fd, hb, hF⟩ := Ord.factsL (P := (PySem.Challenge.rw_yourorder_k15_whole_heaps).prog) (w := w) KX G hmg c
    refine ⟨K, KX, fd, Ord.tfL.map (He.cT K), _, fun p hp => ?_, fun p hp => ?_, fun p hp => ?_, hb, fun H a ns hl hbits hT hS => ?_, hF⟩
    · obtain ⟨z, hz, rfl⟩ := List.mem_map.mp hp
      exact c.empty z hz
    · obtain ⟨z, hz, rfl⟩ := List.mem_map.mp hp
      exact c.out z hz
    · obtain ⟨z, hz, rfl⟩ := List.mem_map.mp hp
      exact PySem.W.codeHd_of_K KX (c.hd z hz)
    · exact ⟨a, ns, rfl, hS, hl, hT (He.cT K ("law", none)) (List.mem_map.mpr ⟨("law", none), by simp [Ord.tfL], rfl⟩), hT (He.cT K ("_law_looked", none)) (List.mem_map.mpr ⟨("_law_looked", none), by simp [Ord.tfL], rfl⟩), hT (He.cT K ("_law_pushed", none)) (List.mem_map.mpr ⟨("_law_pushed", none), by simp [Ord.tfL], rfl⟩), hT (He.cT K ("_law_popped", none)) (List.mem_map.mpr ⟨("_law_popped", none), by simp [Ord.tfL], rfl⟩), fun _ => rfl⟩
#print axioms PySem.Challenge.cw_yourorder_k15_whole_heaps_holds


