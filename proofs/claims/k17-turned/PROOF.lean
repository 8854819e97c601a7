import PyProof.Rows.All
import Wide.All
import OpenK.AllK
import Wide.FinOn
import HandS.ForExc
import KE.KLam
import HandS.Comp
import HandS.Lambda
import HandS.Nested
import HandS.Deep
import HandS.Wide
import HandS.Iter
import HandS.Rev
import HandS.SortKw
import HandS.IsInst
import HandS.Head0
import HandS.Head1
import HandS.Head2
import HandS.HeadHook1
import HandS.HeadHook2
import HandS.HeadHook3
import HandS.HeadHook4
import HandS.HeadWalk
import HandS.EndTab
import PySem.Challenge.RW_yourorder_k17_whole_turned_pairs_and_ris
set_option Elab.async false
set_option linter.all false
set_option maxRecDepth 100000
set_option maxHeartbeats 4000000
namespace Ord
open PySem PySem.Spec PyProof.Rows L2
def top (i : Nat) : Stmt := PySem.Challenge.pw_yourorder_k17_whole_turned_pairs_and_ris.main.body.getD i (.Pass ⟨0, 0, 0, 0⟩)
abbrev st_turned_pairs : Stmt := top 1
abbrev st_counted : Stmt := top 2
abbrev st_rising : Stmt := top 3
abbrev st__law_cell : Stmt := top 5
abbrev st__law_drawn : Stmt := top 6
abbrev st__law_answer : Stmt := top 7
abbrev st__law_ask : Stmt := top 8
abbrev st__law_log : Stmt := top 9
abbrev st__law_row : Stmt := top 10
abbrev st__law_size : Stmt := top 11
abbrev st__law_sorted : Stmt := top 12
abbrev st__law_longest : Stmt := top 13
abbrev st_law : Stmt := top 14
end Ord

/-! The closure layer: lambdas with parameters and captured cells, handed to defs and called there. -/
namespace Ord
open PySem PySem.Spec PyProof.Rows L2 LamX

/-! ### a thing that is known to the object -/
abbrev Fz (o : Obj) : HO := .frz o (.ext fun _ => True)
theorem fz_ok {P : Program} {w : World} {H : Hp} {h : Heap} {a : Addr} {o : Obj} (e : h.get? a = some o) : ObjOk P w H h a (Fz o) :=
  ⟨e, True.intro, ⟨o, e⟩, fun _ _ _ _ => True.intro⟩
theorem fz_at {P : Program} {w : World} {H : Hp} {h : Heap} {a : Addr} {o : Obj} (hok : HOk P w H h) (e : H a = some (Fz o)) : h.get? a = some o := (hok a _ e).1
theorem upd_none {H : Hp} {a b : Addr} {o : HO} (e : upd H a o b = Option.none) : H b = Option.none := by
  unfold upd at e
  split at e
  · cases e
  · exact e

/-! ### a lambda is made -/
section
variable {X : Cx} {pins : List (Addr × Obj)} {σ : L2.St} {H : Hp} {s : Shared}
theorem inv_fz {o : Obj} {t' : Nat} (I : Inv X pins σ H s) (hf : o.isFreed = false) : Inv X pins σ (upd H s.heap.objs.size (Fz o)) { s with heap := s.heap.push o, toks := t' } :=
  I.laid (a := s.heap.objs.size) (fun b u e => Heap.get?_push_of_some _ e) (Nat.le_refl _) (fz_ok (Heap.get?_push_size _ hf))
theorem lam_make3 {T : List (Addr × Str)} {c P : Addr} {params : Arguments} {body : Expr} {scope : Scope} {pos : Pos} {E : Value → Shared → Prop} {Q : Value → Shared → Prop} (I : Inv X pins σ H s) (TB : TabB X.base X.mg c P) (hcode : X.env.code = .ref c)
    (hm : (P, X.env.qual ++ "<lambda>") ∈ T) (hu : ∀ p ∈ T, p.1 = P → p.2 = X.env.qual ++ "<lambda>") (hT : Tabs T H) (hdef : defaultsOf params X.env = ([], [])) (hfree : ∀ y ∈ scope.names, y.2 = .free → ∃ c, X.env.cells.lookup y.1 = some c)
    (h : ∀ (f c' : Addr) (pm ctv : Value) (H1 : Hp) (s' : Shared), Inv X pins σ H1 s' → ExtN H H1 → (∀ b, H1 b = Option.none → H b = Option.none) → Tabs T H1 → H f = none →
      H1 f = some (Fz (PySem.W.kla_obj "<lambda>" (X.env.qual ++ "<lambda>") params body scope (cloFrom X.env.cells scope.names []) pm c' ctv)) → H1 c' = some (CodeO c' (X.env.qual ++ "<lambda>")) → Q (.ref f) s') :
    wpAny (model X.prog X.w) X.A (eval (.Lambda params body scope pos) X.env) Q E s := by
  obtain ⟨ps, hP, ht, ha⟩ := hT _ hm
  refine PySem.W.kla_eval hdef ?_
  have bP : s.heap.BuiltinsAt X.mg P := TB.bm.keeps I.bk
  have hP' : s.heap.get? P = some { cls := .none, data := .fields ps } := I.hok P _ hP
  cases hc : codeAmong pos ps.toList with
  | none =>
    refine PySem.W.kla_makeFunction (mg := X.mg) (c := c) (P := P) (ps := ps) (closure_ok hfree) I.ok.glob (I.mod.glob.keeps I.bk) hcode (TB.code.keeps I.bk) hP' ht hc TB.gP bP fun c' ctv h' tk hx hge hlt hrec htb => ?_
    obtain ⟨c2, oc, vs, t, e2, hoc, hd, hv⟩ := hrec
    cases e2
    have nC : H c' = none := I.hok.fresh hge
    have I1 := inv_table (t' := tk) (more := #[rawInt pos.line, rawInt pos.col, .ref c']) (h' := h') I hP (fun b o hb e => hx b o hb e) htb hge ⟨oc, vs, t, hoc, hd, hv⟩
    have hE : ExtN H (upd (upd H P (.tbl (ps ++ #[rawInt pos.line, rawInt pos.col, .ref c']))) c' (CodeO c' (X.env.qual ++ "<lambda>"))) := fun b o e n => by
      rw [upd_ne (ne_of_none e nC), upd_ne (fun z => n ps (Option.some.inj (e.symm.trans (by rw [z]; exact hP))))]
      exact e
    have eL : (ps ++ #[rawInt pos.line, rawInt pos.col, .ref c']).toList = ps.toList ++ [rawInt pos.line, rawInt pos.col, .ref c'] := by simp
    have T1 : Tabs T (upd (upd H P (.tbl (ps ++ #[rawInt pos.line, rawInt pos.col, .ref c']))) c' (CodeO c' (X.env.qual ++ "<lambda>"))) := fun p hp => by
      by_cases hb : p.1 = P
      · rw [hu p hp hb, hb]
        refine ⟨_, by rw [upd_ne (ne_of_none hP nC), upd_same], by rw [eL]; exact PySem.TriplesOk_snoc _ _ _ _ ht, fun p' cv hcv => ?_⟩
        rw [eL] at hcv
        rcases among_app _ ht hcv with z | z
        · obtain ⟨c0, e1, e2⟩ := ha p' cv z
          exact ⟨c0, e1, hE _ _ e2 codeO_ne⟩
        · exact ⟨c', z, upd_same⟩
      · obtain ⟨ps', a1, a2, a3⟩ := hT p hp
        refine ⟨ps', by rw [upd_ne (ne_of_none a1 nC), upd_ne hb]; exact a1, a2, fun p' cv hcv => ?_⟩
        obtain ⟨c0, e1, e2⟩ := a3 p' cv hcv
        exact ⟨c0, e1, hE _ _ e2 codeO_ne⟩
    have nF := I1.hok.fresh (Nat.le_refl _)
    have I2 := inv_fz (o := PySem.W.kla_obj "<lambda>" (X.env.qual ++ "<lambda>") params body scope (cloFrom X.env.cells scope.names []) ((X.mg "__name__").getD .none) c' ctv) (t' := tk) I1 rfl
    refine h h'.objs.size c' _ ctv _ _ I2 (fun b o e n => ?_) (fun b e => upd_none (upd_none (upd_none e))) (T1.ext fun b o e => ?_) (I.hok.fresh (Nat.le_trans hge (Nat.le_of_lt hlt))) upd_same ?_
    · have e1 := hE b o e n
      exact (upd_ne (ne_of_none e1 nF)).trans e1
    · exact (upd_ne (ne_of_none e nF)).trans e
    · exact (upd_ne (Nat.ne_of_lt hlt)).trans upd_same
  | some cv =>
    obtain ⟨c', e, hco⟩ := ha pos cv hc
    subst e
    refine PySem.W.kla_makeFunctionHit (mg := X.mg) (c := c) (P := P) (ps := ps) (closure_ok hfree) I.ok.glob (I.mod.glob.keeps I.bk) hcode (TB.code.keeps I.bk) hP' ht hc bP fun ctv h' tk hx hsz => ?_
    have I1 : Inv X pins σ H { s with heap := h', toks := tk } := I.kept hx
    have nF : H h'.objs.size = none := I1.hok.fresh (Nat.le_refl _)
    have I2 := inv_fz (o := PySem.W.kla_obj "<lambda>" (X.env.qual ++ "<lambda>") params body scope (cloFrom X.env.cells scope.names []) ((X.mg "__name__").getD .none) c' ctv) (t' := tk) I1 rfl
    refine h h'.objs.size c' _ ctv _ _ I2 (fun b o e n => ?_) (fun b e => upd_none e) (hT.ext fun b o e => ?_) nF upd_same ?_
    · exact (upd_ne (ne_of_none e nF)).trans e
    · exact (upd_ne (ne_of_none e nF)).trans e
    · exact (upd_ne (ne_of_none hco nF)).trans hco
end
/-- the reading of a lambda's making -/
def tLamV (T : List (Addr × Str)) (mk : Value → Addr → Value → Obj) (q : Str) : TE := fun _ H Q => Tabs T H ∧ ∀ (f c' : Addr) (pm ctv : Value) (H1 : Hp), ExtN H H1 → (∀ b, H1 b = Option.none → H b = Option.none) → Tabs T H1 → H f = none →
  H1 f = some (Fz (mk pm c' ctv)) → H1 c' = some (CodeO c' q) → Q (.ref f) H1
theorem pe_lam {X : Cx} {T : List (Addr × Str)} {c P : Addr} {params : Arguments} {body : Expr} {scope : Scope} {pos : Pos} {q : Str} (hq : X.env.qual ++ "<lambda>" = q) (TB : TabB X.base X.mg c P) (hcode : X.env.code = .ref c)
    (hm : (P, q) ∈ T) (hu : ∀ p ∈ T, p.1 = P → p.2 = q) (hdef : defaultsOf params X.env = ([], []))
    (hfree : ∀ y ∈ scope.names, y.2 = .free → X.env.scope.names.lookup y.1 = some .cell ∨ X.env.scope.names.lookup y.1 = some .free) :
    PE X (.Lambda params body scope pos) (tLamV T (fun pm c' ctv => PySem.W.kla_obj "<lambda>" q params body scope (cloFrom X.env.cells scope.names []) pm c' ctv) q) := by
  subst hq
  refine ⟨fun pins s σ H Q I h => ?_⟩
  obtain ⟨hT, h⟩ := h
  exact lam_make3 I TB hcode hm hu hT hdef (fun y hy e => (hfree y hy e).elim (fun z => I.ok.has _ (.inl z)) fun z => I.ok.has _ (.inr z)) fun f c' pm ctv H1 s' I1 eN nn T1 f0 f1 c1 =>
    ⟨.ref f, H1, I1, rfl, h f c' pm ctv H1 eN nn T1 f0 f1 c1⟩

/-! ### a function value and its promise -/
def IsFz (H : Hp) (f : Addr) : Prop := ∃ (oc : Value) (od : Option Addr) (fd : FuncData) (sl : Array (Option Value)), H f = some (Fz ⟨oc, od, .func fd, sl⟩)
theorem fnAt_fz {P : Program} {w : World} {H : Hp} {h : Heap} {f : Addr} (hok : HOk P w H h) (e : IsFz H f) : PySem.W.FnAt f h := by
  obtain ⟨oc, od, fd, sl, e⟩ := e
  exact ⟨oc, od, fd, sl, fz_at hok e⟩
/-- calling the function at f with positional arguments keeps sp -/
structure FnV (P : Program) (w : World) (K : PySem.W.Frag) (mg : Str → Option Value) (base : Heap) (k : Nat) (f : Addr) (sp : Sp) : Prop where
  run : ∀ (A : Around) (outer : List Env) (s : Shared) (H : Hp) (us : List Value) (vs : List V) (Q : VK), Room k A → Env0 P w K mg base A outer s H → Vals vs us → sp vs H Q E0 →
    codeAny (model P w) A (.call (.ref f) ⟨us, []⟩) (CR CX0 outer P w H s Q E0) s
theorem FnV.mono {P : Program} {w : World} {K : PySem.W.Frag} {mg : Str → Option Value} {base : Heap} {j k : Nat} {f : Addr} {sp : Sp} (F : FnV P w K mg base j f sp) (h : j ≤ k) : FnV P w K mg base k f sp :=
  ⟨fun A outer s H us vs Q hr => F.run A outer s H us vs Q (hr.mono h)⟩
section
variable {X : Cx} {k : Nat} {f : Addr} {sp : Sp} {e : Expr} {es : List Expr} {t : TA} {x : Str} {p pos : Pos} {i : Nat}
theorem run_v {pins : List (Addr × Obj)} {σ : L2.St} {H : Hp} {s : Shared} {Q : VK} {us : List Value} {vs : List V} (F : FnV X.prog X.w X.K X.mg X.base k f sp) (hr : Room k X.A) (I : Inv X pins σ H s) (r : Vals vs us) (h : sp vs H Q E0) :
    wpAny (model X.prog X.w) X.A (call (.ref f) us) (EP X pins σ Q) X.xe s := by
  refine wpAny_call (codeAny_mono (F.run X.A X.stack s H us vs Q hr I.env0 r h) fun r s' hq => ?_)
  cases r with
  | error e => exact False.elim hq
  | ok fl =>
    cases fl with
    | ret u => exact I.after hq
    | next => exact False.elim hq
    | brk => exact False.elim hq
    | cont => exact False.elim hq
/-- x(e, ..), x a name of the def that holds a function -/
def tCallV (i : Nat) (f : Addr) (sp : Sp) (t : TA) : TE := fun σ H Q => σ[i]? = some (some (.ref f)) ∧ IsFz H f ∧ t σ H fun vs H1 => IsFz H1 f ∧ sp vs H1 Q E0
theorem pe_callV (F : FnV X.prog X.w X.K X.mg X.base k f sp) (hr : Room k X.A) (ha : PA X (e :: es) t) (hN : X.N[i]? = some x := by rfl) (hv : Vis X.env.scope x := by first | exact Or.inl rfl | exact Or.inr (Or.inl rfl) | exact Or.inr (Or.inr rfl))
    (hd : (x == ("__debug__" : Str)) = false := by decide) (hcd : (x == ("__classdict__" : Str)) = false := by decide)
    (he : starEach (e :: es) X.env = (false, eval e X.env) :: starEach es X.env := by rfl) (hpl : (backTo pos (starEach es X.env)).any (·.1) = false := by rfl) :
    PE X (.Call (.Name x p) (e :: es) [] pos) (tCallV i f sp t) := by
  refine ⟨fun pins s σ H Q I h => ?_⟩
  obtain ⟨hs, hf, ht⟩ := h
  refine wpAny_Call_Name_kw (thn ((pe_var (pos := p) hN hv hd hcd).run pins s σ H (fun v H1 => v = .ref f ∧ H1 = H) I ⟨.ref f, hs, rfl, rfl⟩) fun u s1 ⟨v, H1, I1, r1, q1⟩ => ?_)
  obtain ⟨ev, eH⟩ := q1
  subst ev
  rw [eH] at I1
  obtain rfl : u = Value.ref f := r1
  exact PySem.W.callWith_F (first := []) (fnAt_fz I1.hok hf) (thn (ha.run pos pins s1 σ H _ I1 ht) fun us s2 ⟨vs, H2, I2, r, h1, q⟩ => ⟨fnAt_fz I2.hok h1, run_v F hr I2 r q⟩) he hpl
end
/-! ### o.f(e, ..), f a field that holds a function -/
theorem method_field {prog : Program} {w : World} {A : Around} {s : Shared} {K : PySem.W.Frag} {x C : Addr} {ox : Obj} {od : Option Obj} {name : Str} {pl : Sem Bool} {E : Value → Shared → Prop} {Q : Value × List Value → Shared → Prop}
    (X : K.In s.heap) (I : PySem.W.InstAt s.heap x ox C od) (hga : PySem.W.findIn K (.ref C) "__getattribute__" = some (some (.builtin "object.__getattribute__"))) (hk : PySem.W.findIn K (.ref C) "__getattr__" = some none)
    (hf : PySem.W.findIn K (.ref C) name = some none) (h : wpAny (model prog w) A (getAttr (.ref x) name) (fun v s' => Q (v, []) s') E s) :
    wpAny (model prog w) A (getMethod (.ref x) name pl) Q E s := by
  have hcan := PySem.F.canon_object_ga
  unfold getMethod specialOf
  refine wpAny_bind (wpAny_bind (I.type.here ((PySem.W.looks_findIn X hga).here ?_)))
  dsimp only
  rw [hcan, if_neg (by decide)]
  refine wpAny_bind (wpAny_bind (I.type.here ((PySem.W.looks_findIn X hk).here ?_)))
  refine wpAny_bind (wpAny_bind (I.type.here ((PySem.W.looks_findIn X hf).here ?_)))
  exact wpAny_bind (wpAny_mono h (fun v s' q => wpAny_pure q) fun _ _ z => z)
theorem getfn_ok {X : Cx} {pins : List (Addr × Obj)} {σ : L2.St} {H : Hp} {s : Shared} {a C dx f : Addr} {fs : List (Str × V)} {m : Str} {pl : Sem Bool} {E : Value → Shared → Prop} {Q : Value × List Value → Shared → Prop} (I : Inv X pins σ H s) (e : H a = some (.ins C dx fs)) (c : Cls X.K C) (n : NoAttr X.K C m)
    (l : fs.lookup m = some (.ref f)) (h : ∀ s', Inv X pins σ H s' → Q (.ref f, []) s') : wpAny (model X.prog X.w) X.A (getMethod (.ref a) m pl) Q E s := by
  obtain ⟨mA, O, r, _, _, _⟩ := ins_get I.hok e
  obtain ⟨od, J, hl⟩ := O.look
  refine method_field I.kIn J (PySem.W.plainGet_of (c.get m)).1 (PySem.W.plainGet_of (c.get m)).2 n ?_
  refine getattr_ok I e c n l fun u s' I' ru => ?_
  obtain rfl : u = Value.ref f := ru
  exact h s' I'
section
variable {X : Cx} {k : Nat} {f C : Addr} {sp : Sp} {o e : Expr} {es : List Expr} {ta : TE} {t : TA} {m : Str} {apos pos : Pos}
def tCallF (K : PySem.W.Frag) (m : Str) (f : Addr) (sp : Sp) (ta : TE) (t : TA) : TE := fun σ H Q => ta σ H fun x H1 => ∃ a C dx fs, x = .ref a ∧ H1 a = some (.ins C dx fs) ∧ Cls K C ∧ NoAttr K C m ∧ fs.lookup m = some (.ref f) ∧ IsFz H1 f ∧
  t σ H1 fun vs H2 => IsFz H2 f ∧ sp vs H2 Q E0
theorem pe_callF {pl : Sem Bool} (he : PE X o ta) (F : FnV X.prog X.w X.K X.mg X.base k f sp) (hr : Room k X.A) (ha : PA X (e :: es) t)
    (hst : starEach (e :: es) X.env = (false, eval e X.env) :: starEach es X.env := by rfl) (hpl : (backTo pos (starEach es X.env)).any (·.1) = false := by rfl)
    (ht : eval (.Call (.Attribute o m apos) (e :: es) [] pos) X.env = (do
      let ov ← eval o X.env
      standAt apos.atName
      let (f, first) ← holding [ov] (getMethod ov m pl)
      callWith pos f first (backTo pos (starEach (e :: es) X.env)) (backToKw pos (keywordEach [] X.env))) := by rfl) :
    PE X (.Call (.Attribute o m apos) (e :: es) [] pos) (tCallF X.K m f sp ta t) := by
  refine ⟨fun pins s σ H Q I h => ?_⟩
  refine PySem.W.methodCall_KW (pl := pl) (thn (he.run pins s σ H _ I h) fun u s1 ⟨x, H1, I1, rx, a, C, dx, fs, ex, ea, c, n, l, hf, q⟩ => ?_) ht
  subst ex
  obtain rfl : u = Value.ref a := rx
  refine getfn_ok I1 ea c n l fun s1' I1' => ?_
  exact PySem.W.callWith_F (first := []) (fnAt_fz I1'.hok hf) (thn (ha.run pos pins s1' σ H1 _ I1' q) fun us s2 ⟨vs, H2, I2, r, h1, q2⟩ => ⟨fnAt_fz I2.hok h1, run_v F hr I2 r q2⟩) hst hpl
end

/-! ### the maker's cells, lent for a call -/
def strip (cs : List (Str × Addr)) (H : Hp) : Hp := fun b => if b ∈ cs.map (·.2) then none else H b
theorem strip_out {cs : List (Str × Addr)} {H : Hp} {b : Addr} (h : b ∉ cs.map (·.2)) : strip cs H b = H b := if_neg h
theorem strip_in {cs : List (Str × Addr)} {H : Hp} {b : Addr} (h : b ∈ cs.map (·.2)) : strip cs H b = none := if_pos h
theorem strip_some {cs : List (Str × Addr)} {H : Hp} {b : Addr} {o : HO} (h : strip cs H b = some o) : b ∉ cs.map (·.2) ∧ H b = some o := by
  by_cases hb : b ∈ cs.map (·.2)
  · rw [strip_in hb] at h
    cases h
  · rw [strip_out hb] at h
    exact ⟨hb, h⟩
/-- the cell at c holds v -/
def CellV (H : Hp) (c : Addr) (v : V) : Prop := ∃ (o : Obj) (u : Value), H c = some (Fz o) ∧ o.data = .cell (some u) ∧ RelV v u
/-- H2 is H with the cells cs lent; what the slots of captured names hold stands in them -/
structure Lent (X : Cx) (σ : L2.St) (H H2 : Hp) : Prop where
  out : ∀ b, b ∉ X.env.cells.map (·.2) → H2 b = H b
  none_ : ∀ b, b ∈ X.env.cells.map (·.2) → H b = none
  fz : ∀ b, b ∈ X.env.cells.map (·.2) → ∃ (o : Obj) (v : Option Value), H2 b = some (Fz o) ∧ o.data = .cell v
  inj : ∀ x y c, X.env.cells.lookup x = some c → X.env.cells.lookup y = some c → x = y
  has : ∀ x, (X.env.scope.names.lookup x = some .cell ∨ X.env.scope.names.lookup x = some .free) → ∃ c, X.env.cells.lookup x = some c
  val : ∀ (i : Nat) (x : Str) (v : V), X.N[i]? = some x → σ[i]? = some (some v) → (X.env.scope.names.lookup x = some .cell ∨ X.env.scope.names.lookup x = some .free) → ∃ c, X.env.cells.lookup x = some c ∧ CellV H2 c v
theorem Lent.keep {X : Cx} {σ : L2.St} {H H2 : Hp} (L : Lent X σ H H2) {b : Addr} {o : HO} (e : H b = some o) : H2 b = some o := by
  have hb : b ∉ X.env.cells.map (·.2) := fun z => by
    rw [L.none_ b z] at e
    cases e
  rw [L.out b hb]
  exact e
theorem lookup_mem2 {cs : List (Str × Addr)} {x : Str} {c : Addr} (e : cs.lookup x = some c) : c ∈ cs.map (·.2) := List.mem_map.mpr ⟨_, PySem.mem_of_lookup e, rfl⟩
/-- no name stands twice among the cells -/
def UniqC (cs : List (Str × Addr)) : Prop := ∀ b, b ∈ cs.map (·.2) → ∃ x, cs.lookup x = some b
section
variable {X : Cx} {pins : List (Addr × Obj)} {σ : L2.St} {H : Hp} {s s' : Shared}
def lendH (X : Cx) (s : Shared) (H : Hp) : Hp := fun b => if b ∈ X.env.cells.map (·.2) then (s.heap.get? b).map Fz else H b
theorem cell_at (I : Inv X pins σ H s) (un : UniqC X.env.cells) {b : Addr} (hb : b ∈ X.env.cells.map (·.2)) : H b = none ∧ ∃ (o : Obj) (v : Option Value), s.heap.get? b = some o ∧ o.data = .cell v := by
  obtain ⟨x, hx⟩ := un b hb
  obtain ⟨v, o, ho, hd⟩ := I.cell x b hx
  exact ⟨I.freeC x b hx, o, v, ho, hd⟩
theorem lendH_in (I : Inv X pins σ H s) {b : Addr} {o : Obj} (hb : b ∈ X.env.cells.map (·.2)) (ho : s.heap.get? b = some o) : lendH X s H b = some (Fz o) := by
  unfold lendH
  rw [if_pos hb, ho]
  rfl
theorem lendH_out {b : Addr} (hb : b ∉ X.env.cells.map (·.2)) : lendH X s H b = H b := if_neg hb
theorem lendH_ok (I : Inv X pins σ H s) (un : UniqC X.env.cells) : HOk X.prog X.w (lendH X s H) s.heap := by
  intro b u e
  by_cases hb : b ∈ X.env.cells.map (·.2)
  · obtain ⟨_, o, v, ho, _⟩ := cell_at I un hb
    rw [lendH_in I hb ho] at e
    cases e
    exact fz_ok ho
  · rw [lendH_out hb] at e
    have kp : ∀ c y, H c = some y → lendH X s H c = some y := fun c y z => by
      have hc : c ∉ X.env.cells.map (·.2) := fun q => by
        rw [(cell_at I un q).1] at z
        cases z
      rw [lendH_out hc]
      exact z
    exact (I.hok b u e).stay (fun _ _ _ q => q) (fun c q => kp c _ q) fun c xs q => kp c _ q
theorem lendH_lent (I : Inv X pins σ H s) (un : UniqC X.env.cells) : Lent X σ H (lendH X s H) := by
  refine ⟨fun b hb => lendH_out hb, fun b hb => (cell_at I un hb).1, fun b hb => ?_, I.ok.inj, fun x hk => I.ok.has x hk, fun i x v hN hs hk => ?_⟩
  · obtain ⟨_, o, v, ho, hd⟩ := cell_at I un hb
    exact ⟨o, v, lendH_in I hb ho, hd⟩
  · obtain ⟨m, hn, hl⟩ := I.loc
    obtain ⟨u, r, l⟩ := hl i x v hN hs (hk.elim (fun z => .inr (.inl z)) fun z => .inr (.inr z))
    rcases l with ⟨z, _⟩ | ⟨_, c, hc, o, ho, hd⟩
    · have z' : X.env.scope.names.lookup x = some .local := z
      rcases hk with k | k <;> rw [k] at z' <;> cases z'
    · exact ⟨c, hc, o, u, lendH_in I (lookup_mem2 hc) ho, hd, r⟩
theorem lend_env0 (I : Inv X pins σ H s) (un : UniqC X.env.cells) (hfn : ∀ x, X.fn x = true) : Env0 X.prog X.w X.K X.mg X.base X.A X.stack s (lendH X s H) := by
  have e0 := I.env0
  have ncell : ∀ b o, X.base.get? b = some o → b ∉ X.env.cells.map (·.2) := fun b o e hb => by
    obtain ⟨x, hx⟩ := un b hb
    exact absurd (Nat.lt_of_lt_of_le (Heap.lt_size (I.ok.bs b o e).1) (I.ok.cab x b (hfn x) hx)) (Nat.lt_irrefl _)
  refine ⟨e0.frames, e0.mod, fun b o e => ⟨(e0.bs b o e).1, by rw [lendH_out (ncell b o e)]; exact (e0.bs b o e).2⟩, e0.bsz, e0.funs, fun b hb => ?_, lendH_ok I un, e0.bare⟩
  have nb : b ∉ X.env.cells.map (·.2) := fun z => by
    rcases List.mem_cons.mp (I.stkSub b hb) with e | e
    · obtain ⟨x, hx⟩ := un b z
      exact I.cne x b hx e
    · obtain ⟨x, hx⟩ := un b z
      obtain ⟨_, o, ho, _⟩ := I.ok.funs.mem e
      exact absurd (Nat.lt_of_lt_of_le (Heap.lt_size ho) (I.ok.cab x b (hfn x) hx)) (Nat.lt_irrefl _)
  rw [lendH_out nb]
  exact e0.frf b hb
/-- behind a call with the cells lent -/
theorem lent_after {Q : VK} {u : Value} (I : Inv X pins σ H s) (un : UniqC X.env.cells) (h : CE X.stack X.prog X.w (lendH X s H) s (fun v H3 => Q v (strip X.env.cells H3)) u s') : EP X pins σ Q u s' := by
  obtain ⟨v, H3, os, bare, U, hok, r, q⟩ := h
  have cellIn : ∀ b, b ∈ X.env.cells.map (·.2) → ∃ o, s.heap.get? b = some o ∧ H3 b = some (Fz o) ∧ s'.heap.get? b = some o := fun b hb => by
    obtain ⟨_, o, v, ho, _⟩ := cell_at I un hb
    have e3 := U.frzs b o _ (lendH_in I hb ho)
    exact ⟨o, ho, e3, fz_at hok e3⟩
  have nIn : ∀ b y, H b = some y → b ∉ X.env.cells.map (·.2) := fun b y z q => by
    rw [(cell_at I un q).1] at z
    cases z
  have nFr : ∀ b, b ∈ X.env.cells.map (·.2) → ∀ y, strip X.env.cells H3 b ≠ some y := fun b hb y z => (strip_some z).1 hb
  have U4 : Un (frs X.stack) [] H (strip X.env.cells H3) s.heap s'.heap := by
    refine ⟨fun b o e n hf hx => ?_, fun b o e n hf hx => ?_, fun b o e n hx => ?_, U.there, fun b xs e => ?_, fun b o y e => ?_, fun b ps e => ?_⟩
    · by_cases hb : b ∈ X.env.cells.map (·.2)
      · obtain ⟨o', e1, _, e3⟩ := cellIn b hb
        rw [e] at e1
        cases e1
        exact e3
      · exact U.keep b o e (by rw [lendH_out hb]; exact n) hf hx
    · by_cases hb : b ∈ X.env.cells.map (·.2)
      · obtain ⟨o', e1, _, e3⟩ := cellIn b hb
        rw [e] at e1
        cases e1
        exact ⟨o.slots, e3⟩
      · exact U.slot b o e (by rw [lendH_out hb]; exact n) hf hx
    · by_cases hb : b ∈ X.env.cells.map (·.2)
      · exact strip_in hb
      · rw [strip_out hb]
        exact U.free b o e (by rw [lendH_out hb]; exact n) hx
    · have hb := nIn b _ e
      rw [strip_out hb]
      exact U.tups b xs (by rw [lendH_out hb]; exact e)
    · have hb := nIn b _ e
      rw [strip_out hb]
      exact U.frzs b o y (by rw [lendH_out hb]; exact e)
    · have hb := nIn b _ e
      rw [strip_out hb]
      exact U.tbls b ps (by rw [lendH_out hb]; exact e)
  have hok4 : HOk X.prog X.w (strip X.env.cells H3) s'.heap := by
    intro b y e
    obtain ⟨hb, e⟩ := strip_some e
    have kp : ∀ c z, H3 c = some z → (∀ o, z ≠ Fz o) → strip X.env.cells H3 c = some z := fun c z hz nz => by
      have hc : c ∉ X.env.cells.map (·.2) := fun q => by
        obtain ⟨o, _, e3, _⟩ := cellIn c q
        rw [e3] at hz
        exact nz o (Option.some.inj hz).symm
      rw [strip_out hc]
      exact hz
    exact (hok b y e).stay (fun _ _ _ q => q) (fun c q => kp c _ q fun o z => by cases z) fun c xs q => kp c _ q fun o z => by cases z
  obtain ⟨hh, g, d, t, os'⟩ := s'
  obtain rfl : os' = s.os := os
  exact ⟨v, strip X.env.cells H3, I.call (h' := hh) (g' := g) (d' := d) (t' := t) (ch := []) U4 hok4 bare (fun b z => absurd z (by simp)), r, q⟩
end
/-! ### calls with the cells lent -/
def lentQ (X : Cx) (Q : VK) : VK := fun v H3 => Q v (strip X.env.cells H3)
def tCallLent (X : Cx) (sp : Sp) (t : TA) : TE := fun σ H Q => t σ H fun vs H1 => ∀ H2, Lent X σ H1 H2 → sp vs H2 (lentQ X Q) E0
def tMethLent (X : Cx) (C : Addr) (m : Str) (sp : Sp) (ta : TE) (t : TA) : TE := fun σ H Q => ta σ H fun x H1 => ∃ a dx fs, x = .ref a ∧ H1 a = some (.ins C dx fs) ∧ fs.lookup m = none ∧
  t σ H1 fun vs H2 => ∀ H3, Lent X σ H2 H3 → sp (x :: vs) H3 (lentQ X Q) E0
section
variable {X : Cx} {k : Nat} {f C : Addr} {fd : FuncData} {ps : List Str} {sp : Sp} {x m : Str} {p pos apos : Pos} {e o : Expr} {es : List Expr} {ta : TE} {t : TA}
theorem run_lent {CX : CXT} {pins : List (Addr × Obj)} {σ : L2.St} {H : Hp} {s : Shared} {Q : VK} {us : List Value} {vs : List V} (F : FnOk X.prog X.w X.K X.mg X.base CX k f fd ps sp) (hr : Room k X.A) (hb : Binds X.K fd ps []) (un : UniqC X.env.cells) (hfn : ∀ x, X.fn x = true)
    (hCX : ∀ H s e s', CX X.stack H s E0 e s' → False) (I : Inv X pins σ H s) (r : Vals vs us) (h : ∀ H2, Lent X σ H H2 → sp vs H2 (lentQ X Q) E0) : wpAny (model X.prog X.w) X.A (call (.ref f) us) (EP X pins σ Q) X.xe s := by
  have hq := h (lendH X s H) (lendH_lent I un)
  have hl : us.length = ps.length := by rw [← r.length]; exact F.len _ _ _ _ hq
  have hbt := hb s us I.kIn (by rw [List.append_nil]; exact hl)
  rw [List.append_nil] at hbt
  refine wpAny_call (codeAny_mono (F.run X.A X.stack s (lendH X s H) ⟨us, []⟩ us vs _ E0 hr (lend_env0 I un hfn) hbt r hq) fun r s' hq => ?_)
  cases r with
  | error e => exact (hCX _ _ _ _ hq).elim
  | ok fl =>
    cases fl with
    | ret u => exact lent_after I un hq
    | next => exact False.elim hq
    | brk => exact False.elim hq
    | cont => exact False.elim hq
theorem pe_callLent {CX : CXT} (F : FnOk X.prog X.w X.K X.mg X.base CX k f fd ps sp) (hr : Room k X.A) (hg : Gl X x) (hm : X.mg x = some (.ref f)) (hk : PySem.W.keepIn X.K (.ref f) = true) (hb : Binds X.K fd ps []) (un : UniqC X.env.cells) (hfn : ∀ x, X.fn x = true)
    (hCX : ∀ H s e s', CX X.stack H s E0 e s' → False) (ha : PA X (e :: es) t) (hdb : (x == ("__debug__" : Str)) = false := by decide) (he : starEach (e :: es) X.env = (false, eval e X.env) :: starEach es X.env := by rfl) (hpl : (backTo pos (starEach es X.env)).any (·.1) = false := by rfl) :
    PE X (.Call (.Name x p) (e :: es) [] pos) (tCallLent X sp t) := by
  refine ⟨fun pins s σ H Q I h => ?_⟩
  refine wpAny_Call_Name_kw (ld_glob I hg hm ?_ hdb)
  refine PySem.W.callWith_K (h₀ := X.base) I.ok.mod.kin hk (thn (ha.run pos pins s σ H _ I h) fun us s1 ⟨vs, H1, I1, r, q⟩ => ⟨I1.kIn, ?_⟩) he hpl
  exact run_lent F hr hb un hfn hCX I1 r q
theorem pe_methLent {CX : CXT} {pl : Sem Bool} (he : PE X o ta) (c : Cls X.K C) (hm : Meth X.K C m f) (F : FnOk X.prog X.w X.K X.mg X.base CX k f fd ps sp) (hr : Room k X.A) (hb : Binds X.K fd ps []) (un : UniqC X.env.cells) (hfn : ∀ x, X.fn x = true)
    (hCX : ∀ H s e s', CX X.stack H s E0 e s' → False) (ha : PA X (e :: es) t)
    (hst : starEach (e :: es) X.env = (false, eval e X.env) :: starEach es X.env := by rfl) (hpl : (backTo pos (starEach es X.env)).any (·.1) = false := by rfl)
    (ht : eval (.Call (.Attribute o m apos) (e :: es) [] pos) X.env = (do
      let ov ← eval o X.env
      standAt apos.atName
      let (f, first) ← holding [ov] (getMethod ov m pl)
      callWith pos f first (backTo pos (starEach (e :: es) X.env)) (backToKw pos (keywordEach [] X.env))) := by rfl) :
    PE X (.Call (.Attribute o m apos) (e :: es) [] pos) (tMethLent X C m sp ta t) := by
  refine ⟨fun pins s σ H Q I h => ?_⟩
  refine PySem.W.methodCall_KW (pl := pl) (thn (he.run pins s σ H _ I h) fun u s1 ⟨x, H1, I1, rx, a, dx, fs, ex, ea, l, q⟩ => ?_) ht
  subst ex
  obtain rfl : u = Value.ref a := rx
  refine getmeth_ok I1 ea c hm l ?_
  refine PySem.W.callWith_K (first := [.ref a]) (h₀ := X.base) I.ok.mod.kin hm.kp (thn (ha.run pos pins s1 σ H1 _ I1 q) fun us s2 ⟨vs, H2, I2, r, q2⟩ => ⟨I2.kIn, ?_⟩) hst hpl
  exact run_lent (us := .ref a :: us) (vs := .ref a :: vs) F hr hb un hfn hCX I2 (.cons rfl r) q2
end

/-! ### a lambda's body -/
/-- the captured cells: lent, and what they hold -/
structure ClosAt (cl : List (Str × Addr)) (fr : List Str) (ws : List (Option V)) (H : Hp) : Prop where
  len : ws.length = fr.length
  all : ∀ b, b ∈ cl.map (·.2) → ∃ (o : Obj) (v : Option Value), H b = some (Fz o) ∧ o.data = .cell v
  inj : ∀ x y c, cl.lookup x = some c → cl.lookup y = some c → x = y
  has : ∀ (i : Nat) (y : Str), fr[i]? = some y → ∃ c, cl.lookup y = some c ∧ ∀ v, ws[i]? = some (some v) → CellV H c v
/-- H' with the cells of H put back -/
def relend (cs : List (Str × Addr)) (H H' : Hp) : Hp := fun b => if b ∈ cs.map (·.2) then H b else H' b
abbrev lamNF (q : Str) (params : Arguments) (scope : Scope) (cl : List (Str × Addr)) (c' : Addr) : NdefX.NF := ⟨"<lambda>", q, params, [], scope, cl, c'⟩
section
variable {P : Program} {w : World} {K : PySem.W.Frag} {mg : Str → Option Value} {base : Heap} {N ps fr : List Str} {k : Nat}
theorem fnv_lam {params : Arguments} {body : Expr} {scope : Scope} {cl : List (Str × Addr)} {pm ctv : Value} {c' f : Addr} {q : Str} {sp : Sp} {ws : List (Option V)} (S : NdefX.NScope N ps fr scope)
    (hb : ∀ us : List Value, us.length = ps.length → bindArgs (PySem.W.kla_fn "<lambda>" q params body scope cl pm (.ref c') ctv) ⟨us, []⟩ = pure (ps.zip us))
    (hsp : ∀ vs H Q, sp vs H Q E0 → vs.length = ps.length ∧ H f = some (Fz (PySem.W.kla_obj "<lambda>" q params body scope cl pm c' ctv)) ∧ H c' = some (CodeO c' q) ∧ ClosAt cl fr ws H)
    (hbody : ∀ (A : Around) (outer : List Env) (s : Shared) (H : Hp) (vs : List V) (Q : VK), Room k (A.deeper (NdefX.envF (lamNF q params scope cl c') f s.heap.objs.size)) → sp vs H Q E0 →
      ∃ t, PE (NdefX.ncx CX0 P w K mg base N (lamNF q params scope cl c') f A outer s (strip cl H) E0).nox body t ∧ t (NdefX.startF N vs ws) (strip cl H) fun v H' => (∀ b, b ∈ cl.map (·.2) → H' b = Option.none) → Q v (relend cl H H')) :
    FnV P w K mg base (k + 1) f sp := by
  refine ⟨fun A outer s H us vs Q hr e0 r h => ?_⟩
  obtain ⟨hl, hf, hc, C⟩ := hsp vs H Q h
  have lim : s.heap.NoLimit := e0.mod.nolimit.keeps fun b o e => (e0.bs b o e).1
  have of1 := fz_at e0.hok hf
  obtain ⟨⟨oc, ys, tq, hoc, hdc, hvc⟩, _, _⟩ := e0.hok c' _ hc
  refine PySem.W.kla_callFunE hr.depth of1 rfl S.co S.gen rfl ⟨c', oc, ys, tq, rfl, hoc, hdc, hvc⟩ ?_
  rw [hb us (by rw [← r.length]; exact hl)]
  refine wpAny_pure (wpAny_newFunctionEnv S.nocell (fun ⟨n, _⟩ hy => S.par n (List.of_mem_zip hy).1) (fun h₁ hns hsb => ⟨lim.fresh _ hsb, ?_⟩) S.kind)
  show codeAny _ _ (.expr body (NdefX.envF (lamNF q params scope cl c') f s.heap.objs.size)) _ _
  have kp : ∀ b o, s.heap.get? b = some o → h₁.get? b = some o := fun b o e => hsb.extBut b o (Nat.ne_of_lt (Heap.lt_size e)) (Heap.get?_push_of_some _ e)
  obtain ⟨t, ht, hq⟩ := hbody A outer s H vs Q (hr.deeper _) h
  -- the state without the captured cells
  have cellAt : ∀ b, b ∈ cl.map (·.2) → ∃ (o : Obj) (v : Option Value), H b = some (Fz o) ∧ s.heap.get? b = some o ∧ o.data = .cell v := fun b hb => by
    obtain ⟨o, v, e, hd⟩ := C.all b hb
    exact ⟨o, v, e, fz_at e0.hok e, hd⟩
  have kS : ∀ c z, H c = some z → (∀ o, z ≠ Fz o) → strip cl H c = some z := fun c z hz nz => by
    have hc : c ∉ cl.map (·.2) := fun q => by
      obtain ⟨o, _, e3, _⟩ := C.all c q
      rw [e3] at hz
      exact nz o (Option.some.inj hz).symm
    rw [strip_out hc]
    exact hz
  have hokS : HOk P w (strip cl H) s.heap := fun b y e => by
    obtain ⟨_, e⟩ := strip_some e
    exact (e0.hok b y e).stay (fun _ _ _ q => q) (fun c q => kS c _ q fun o z => by cases z) fun c xs q => kS c _ q fun o z => by cases z
  have nS : ∀ b, H b = none → strip cl H b = none := fun b e => by
    by_cases hb : b ∈ cl.map (·.2)
    · exact strip_in hb
    · rw [strip_out hb]
      exact e
  have e1 : Env0 P w K mg base A outer s (strip cl H) := ⟨e0.frames, e0.mod, fun b o e => ⟨(e0.bs b o e).1, nS b (e0.bs b o e).2⟩, e0.bsz, e0.funs, fun b hb => nS b (e0.frf b hb), hokS, e0.bare⟩
  have CA : NdefX.CellsAt cl fr ws s.heap (strip cl H) := by
    refine ⟨C.len, fun y c e => ?_, C.inj, fun i y e => ?_⟩
    · obtain ⟨o, v, _, e2, e3⟩ := cellAt c (lookup_mem2 e)
      exact ⟨strip_in (lookup_mem2 e), v, o, e2, e3⟩
    · obtain ⟨c, hc, hv⟩ := C.has i y e
      refine ⟨c, hc, fun v ev => ?_⟩
      obtain ⟨o, u, e2, e3, ru⟩ := hv v ev
      exact ⟨u, ru, o, fz_at e0.hok e2, e3⟩
  have I : Inv (NdefX.ncx CX0 P w K mg base N (lamNF q params scope cl c') f A outer s (strip cl H) E0) [] (NdefX.startF N vs ws) (strip cl H) { s with heap := h₁, toks := s.toks + (ps.zip us).length } :=
    NdefX.inv_startN S hr.hd e1 hl r CA hns kp
  refine PySem.W.kla_codeExpr (wpAny_mono (ht.nox.run [] _ (NdefX.startF N vs ws) (strip cl H) _ I hq) (fun u s' hs => ?_) fun e s' hs => wpAny_mono hs (fun _ _ z => z.elim) fun _ _ z => z.elim)
  obtain ⟨v, H', J, rv, qv⟩ := hs
  have U : Un (frs outer) [] (strip cl H) H' s.heap s'.heap := J.base
  have cellLater : ∀ b, b ∈ cl.map (·.2) → ∃ o, H b = some (Fz o) ∧ s'.heap.get? b = some o := fun b hb => by
    obtain ⟨o, v, e1, e2, _⟩ := cellAt b hb
    refine ⟨o, e1, U.keep b o e2 (strip_in hb) (fun z => ?_) (by simp)⟩
    have := e0.frf b z
    rw [e1] at this
    cases this
  have inR : ∀ b, b ∈ cl.map (·.2) → relend cl H H' b = H b := fun b hb => if_pos hb
  have outR : ∀ b, b ∉ cl.map (·.2) → relend cl H H' b = H' b := fun b hb => if_neg hb
  have fS : ∀ b, b ∈ cl.map (·.2) → H' b = none := fun b hb => by
    obtain ⟨o, v, _, e2, _⟩ := cellAt b hb
    exact U.free b o e2 (strip_in hb) (by simp)
  refine ⟨v, relend cl H H', J.os, J.bare, ⟨fun b o e n hf hx => ?_, fun b o e n hf hx => ?_, fun b o e n hx => ?_, U.there, fun b xs e => ?_, fun b o y e => ?_, fun b ps e => ?_⟩, fun b y e => ?_, rv, qv fS⟩
  · exact U.keep b o e (nS b n) hf hx
  · exact U.slot b o e (nS b n) hf hx
  · by_cases hb : b ∈ cl.map (·.2)
    · rw [inR b hb]
      exact n
    · rw [outR b hb]
      exact U.free b o e (nS b n) hx
  · by_cases hb : b ∈ cl.map (·.2)
    · rw [inR b hb]
      exact e
    · rw [outR b hb]
      exact U.tups b xs (by rw [strip_out hb]; exact e)
  · by_cases hb : b ∈ cl.map (·.2)
    · rw [inR b hb]
      exact e
    · rw [outR b hb]
      exact U.frzs b o y (by rw [strip_out hb]; exact e)
  · by_cases hb : b ∈ cl.map (·.2)
    · rw [inR b hb]
      exact ⟨#[], by rw [e]; simp⟩
    · rw [outR b hb]
      exact U.tbls b ps (by rw [strip_out hb]; exact e)
  · by_cases hb : b ∈ cl.map (·.2)
    · obtain ⟨o, e1, e2⟩ := cellLater b hb
      rw [inR b hb, e1] at e
      cases e
      exact fz_ok e2
    · rw [outR b hb] at e
      have kp2 : ∀ c z, H' c = some z → relend cl H H' c = some z := fun c z hz => by
        have hc : c ∉ cl.map (·.2) := fun q => by
          rw [fS c q] at hz
          cases hz
        rw [outR c hc]
        exact hz
      exact (J.hok b y e).stay (fun _ _ _ q => q) (fun c q => kp2 c _ q) fun c xs q => kp2 c _ q
end
end Ord

namespace Ord
open PySem PySem.Spec PyProof.Rows L2 LamX
/-! ### how heaps follow one another -/
/-- what never changes -/
def Fixed : HO → Prop
  | .tup _ => True
  | .frz _ _ => True
  | .ext _ => True
  | _ => False
/-- the tuples stand -/
def TK (H H' : Hp) : Prop := ∀ b xs, H b = some (.tup xs) → H' b = some (.tup xs)
/-- all but q stands, the tuples stand -/
structure KB (q : Addr) (H H' : Hp) : Prop where
  keep : ∀ b o, b ≠ q → H b = some o → H' b = some o
  tk : TK H H'
/-- q stands, and what never changes -/
def Stay (q : Addr) (H H' : Hp) : Prop := ∀ b o, H b = some o → (b = q ∨ Fixed o) → H' b = some o
theorem TK.refl (H : Hp) : TK H H := fun _ _ h => h
theorem TK.trans {H H1 H2 : Hp} (a : TK H H1) (b : TK H1 H2) : TK H H2 := fun c xs h => b c xs (a c xs h)
theorem KB.refl (q : Addr) (H : Hp) : KB q H H := ⟨fun _ _ _ h => h, TK.refl H⟩
theorem KB.trans {q : Addr} {H H1 H2 : Hp} (a : KB q H H1) (b : KB q H1 H2) : KB q H H2 := ⟨fun c o n h => b.keep c o n (a.keep c o n h), a.tk.trans b.tk⟩
theorem KB.of_same {q : Addr} {H H' : Hp} (s : Same H H') : KB q H H' := ⟨fun b o _ h => s b o h, fun b xs h => s b _ h⟩
theorem KB.new {q p : Addr} {H : Hp} {o : HO} (n : H p = none) : KB q H (upd H p o) := .of_same fun b u e => by rw [upd_ne (ne_of_none e n)]; exact e
/-- p, new since H, is written -/
theorem KB.wr {q p : Addr} {H H' : Hp} {o : HO} (k : KB q H H') (n : H p = none) : KB q H (upd H' p o) :=
  ⟨fun b u hb e => by rw [upd_ne (ne_of_none e n)]; exact k.keep b u hb e, fun b xs e => by rw [upd_ne (ne_of_none e n)]; exact k.tk b xs e⟩
theorem Stay.of_same {q : Addr} {H H' : Hp} (s : Same H H') : Stay q H H' := fun b o h _ => s b o h
theorem Stay.new {q p : Addr} {H : Hp} {o : HO} (n : H p = none) : Stay q H (upd H p o) := .of_same fun b u e => by rw [upd_ne (ne_of_none e n)]; exact e
theorem Stay.trans {q : Addr} {H H1 H2 : Hp} (a : Stay q H H1) (b : Stay q H1 H2) : Stay q H H2 := fun c o h f => b c o (a c o h f) f
theorem Stay.wr {q p : Addr} {H : Hp} {o u : HO} (e : H p = some u) (nf : ¬ Fixed u) (hq : p ≠ q) : Stay q H (upd H p o) := fun b y h f => by
  have hb : b ≠ p := fun z => by
    rcases f with f | f
    · exact hq (z.symm.trans f)
    · rw [z, e] at h
      cases h
      exact nf f
  rw [upd_ne hb]
  exact h
theorem nf_lst {xs : List V} : ¬ Fixed (.lst xs) := fun z => z
theorem nf_ins {C dx : Addr} {fs : List (Str × V)} : ¬ Fixed (.ins C dx fs) := fun z => z
theorem Stay.tk {q : Addr} {H H' : Hp} (s : Stay q H H') : TK H H' := fun b xs e => s b _ e (.inr True.intro)
theorem Same.tk {H H' : Hp} (s : Same H H') : TK H H' := fun b xs e => s b _ e
theorem TK.new {p : Addr} {H : Hp} {o : HO} (n : H p = none) : TK H (upd H p o) := fun b u e => by rw [upd_ne (ne_of_none e n)]; exact e
theorem TK.wr {p : Addr} {H : Hp} {o u : HO} (e : H p = some u) (nf : ¬ Fixed u) : TK H (upd H p o) := fun b y h => by
  have hb : b ≠ p := fun z => by
    rw [z, e] at h
    cases h
    exact nf True.intro
  rw [upd_ne hb]
  exact h
/-- a row that questions don't change -/
def Row (K : PySem.W.Frag) (q : Addr) (H : Hp) (a : Addr) (xs : List V) : Prop := SqL K H a xs ∧ a ≠ q
theorem sq_keep {K : PySem.W.Frag} {H H' : Hp} {a : Addr} {xs : List V} (h : SqL K H a xs) (k : ∀ o, H a = some o → H' a = some o) : SqL K H' a xs := by
  rcases h with (h | ⟨o, h⟩) | h
  · exact .inl (.inl (k _ h))
  · exact .inl (.inr ⟨o, k _ h⟩)
  · exact .inr h
theorem Row.kb {K : PySem.W.Frag} {q : Addr} {H H' : Hp} {a : Addr} {xs : List V} (h : Row K q H a xs) (k : KB q H H') : Row K q H' a xs := ⟨sq_keep h.1 fun o e => k.keep a o h.2 e, h.2⟩
theorem Row.of {K : PySem.W.Frag} {q : Addr} {H : Hp} {a : Addr} {xs : List V} (h : H a = some (.lst xs)) (n : a ≠ q) : Row K q H a xs := ⟨SqL.of h, n⟩
theorem Row.ne {K : PySem.W.Frag} {q p : Addr} {H : Hp} {a : Addr} {xs : List V} {o : HO} (h : Row K q H a xs) (n : a ≠ p) : Row K q (upd H p o) a xs := ⟨sq_keep h.1 fun u e => by rw [upd_ne n]; exact e, h.2⟩
theorem Row.new {K : PySem.W.Frag} {q p : Addr} {H : Hp} {a : Addr} {xs : List V} {o : HO} (h : Row K q H a xs) (n : H p = none) : Row K q (upd H p o) a xs := ⟨sq_keep h.1 fun u e => by rw [upd_ne (ne_of_none e n)]; exact e, h.2⟩

/-! ### the function that is handed in -/
abbrev Lg := List (V × V)
/-- what a question asks and gives -/
def spAsk (q : Addr) (ans : Lg → V → V → Int) (Log : Lg → Hp → Prop) (Dom : V → Hp → Prop) : Sp := fun vs H Q _ => ∃ (x y : V) (l : Lg), vs = [x, y] ∧ Log l H ∧ l.length < 100000 ∧ Dom x H ∧ Dom y H ∧
  ∀ H', KB q H H' → Log (l ++ [(x, y)]) H' → Q (.int (ans l x y)) H'
structure Orc (P : Program) (w : World) (K : PySem.W.Frag) (mg : Str → Option Value) (base : Heap) where
  f : Addr
  q : Addr
  ans : Lg → V → V → Int
  Log : Lg → Hp → Prop
  Dom : V → Hp → Prop
  isf : ∀ {l H}, Log l H → IsFz H f
  isq : ∀ {l H}, Log l H → H q ≠ Option.none
  stay : ∀ {l H H'}, Stay q H H' → Log l H → Log l H'
  dom : ∀ {x H H'}, TK H H' → Dom x H → Dom x H'
  run : FnV P w K mg base 3 f (spAsk q ans Log Dom)
section
variable {P : Program} {w : World} {K : PySem.W.Frag} {mg : Str → Option Value} {base : Heap} (O : Orc P w K mg base)
/-- all of a row may be asked of -/
def Orc.All (xs : List V) (H : Hp) : Prop := ∀ x ∈ xs, O.Dom x H
variable {O}
theorem Orc.All.tk {xs : List V} {H H' : Hp} (h : O.All xs H) (k : TK H H') : O.All xs H' := fun x hx => O.dom k (h x hx)
theorem Orc.All.get {xs : List V} {H : Hp} {i : Nat} {x : V} (h : O.All xs H) (e : xs[i]? = some x) : O.Dom x H := h x (List.mem_of_getElem? e)
theorem Orc.nq {l : Lg} {H : Hp} {p : Addr} (h : O.Log l H) (n : H p = none) : p ≠ O.q := fun z => O.isq h (by rw [← z]; exact n)
theorem Orc.new {l : Lg} {H : Hp} {p : Addr} {o : HO} (h : O.Log l H) (n : H p = none) : O.Log l (upd H p o) := O.stay (Stay.new n) h
theorem Orc.wr {l : Lg} {H : Hp} {p : Addr} {o u : HO} (h : O.Log l H) (e : H p = some u) (nf : ¬ Fixed u) (hq : p ≠ O.q) : O.Log l (upd H p o) := O.stay (Stay.wr e nf hq) h
end
end Ord
namespace Ord
open PySem PySem.Spec PyProof.Rows L2 LamX
theorem KB.free {q p : Addr} {H H' : Hp} (k : KB q H H') (hq : p ≠ q) (n : H' p = none) : H p = none := by
  cases e : H p with
  | none => rfl
  | some o =>
    rw [k.keep p o hq e] at n
    cases n
theorem cut_from {xs : List V} {i : Nat} (h : i ≤ xs.length) : cutV xs (some (i : Int)) none = xs.drop i := by
  unfold cutV
  rw [HT.sIx_nat, HT.sIx_none, Nat.min_eq_left h, List.take_of_length_le (by rw [List.length_drop]; omega)]
theorem cut_to {xs : List V} {i : Nat} (h : i ≤ xs.length) : cutV xs none (some (i : Int)) = xs.take i := by
  unfold cutV
  rw [HT.sIx_nat, HT.sIx_none, Nat.min_eq_left h, List.drop_zero, Nat.sub_zero]
theorem cut_from1 (xs : List V) (i : Nat) : cutV xs (some (i : Int)) none = xs.drop i := by
  unfold cutV
  rw [HT.sIx_nat, HT.sIx_none]
  by_cases h : i ≤ xs.length
  · rw [Nat.min_eq_left h, List.take_of_length_le (by rw [List.length_drop]; omega)]
  · rw [Nat.min_eq_right (by omega), List.drop_of_length_le (Nat.le_refl _), List.drop_of_length_le (by omega)]
    simp
theorem cut_to1 (xs : List V) (i : Nat) : cutV xs none (some (i : Int)) = xs.take i := by
  unfold cutV
  rw [HT.sIx_nat, HT.sIx_none, List.drop_zero, Nat.sub_zero]
  by_cases h : i ≤ xs.length
  · rw [Nat.min_eq_left h]
  · rw [Nat.min_eq_right (by omega), List.take_of_length_le (Nat.le_refl _), List.take_of_length_le (by omega)]
theorem z1000 {n : Nat} (h : n ≤ 1000) : n ≤ sizeLine := Nat.le_of_lt (small1000 h)
/-- a test whose answer is told -/
theorem iteB {c : Bool} {A B : Prop} (h1 : c = true → A) (h2 : c = false → B) : if c = true then A else B := by
  cases c with
  | true => exact iteT (h1 rfl)
  | false => exact iteF (h2 rfl)
theorem iteD {p : Prop} [Decidable p] {A B : Prop} (h1 : p → A) (h2 : ¬ p → B) : if decide p = true then A else B := iteB (fun e => h1 (of_decide_eq_true e)) fun e => h2 (of_decide_eq_false e)
end Ord
namespace Ord
open PySem PySem.Spec PyProof.Rows L2 LamX
/-! ### operators whose answer is named by the one who asks -/
def rE (C : Int → Int → Prop) (g : Int → Int → Int) : R2 := fun x y H Q => ∃ i j z : Int, x = .int i ∧ y = .int j ∧ C i j ∧ z = g i j ∧ Q (.int z) H
def rE0 (g : Int → Int → Int) : R2 := fun x y H Q => ∃ i j z : Int, x = .int i ∧ y = .int j ∧ z = g i j ∧ Q (.int z) H
section
variable {X : Cx}
theorem opE {f : Value → Value → Sem Value} {C : Int → Int → Prop} {g : Int → Int → Int} (h : OpR X f (rI C fun i j => .int (g i j))) : OpR X f (rE C g) := by
  intro pins s σ H x y v u Q I rx ry q
  obtain ⟨i, j, z, e1, e2, hc, rfl, q⟩ := q
  exact h pins s σ H x y v u Q I rx ry ⟨i, j, e1, e2, hc, q⟩
theorem opE0 {f : Value → Value → Sem Value} {g : Int → Int → Int} (h : OpR X f (rI0 fun i j => .int (g i j))) : OpR X f (rE0 g) := by
  intro pins s σ H x y v u Q I rx ry q
  obtain ⟨i, j, z, e1, e2, rfl, q⟩ := q
  exact h pins s σ H x y v u Q I rx ry ⟨i, j, e1, e2, q⟩
theorem op_fdivE : OpR X (binaryOp .FloorDiv) (rE CDiv fun i j => i / j) := opE op_fdiv
theorem op_addE : OpR X (binaryOp .Add) (rE0 fun i j => i + j) := opE0 op_add
theorem op_subE : OpR X (binaryOp .Sub) (rE0 fun i j => i - j) := opE0 op_sub
theorem op_mulE : OpR X (binaryOp .Mult) (rE CMul fun i j => i * j) := opE op_mul
theorem op_modE : OpR X (binaryOp .Mod) (rE (fun _ j => 0 < j) fun i j => i % j) := opE op_mod
end
end Ord
namespace Ord
open PySem PySem.Spec PyProof.Rows L2 LamX
/-! ### defs of the text by name -/
structure Df (K : PySem.W.Frag) (mg : Str → Option Value) (x : Str) (st : Stmt) (ps : List Str) where
  f : Addr
  fd : FuncData
  F : Fun K x x st f fd
  g : mg x = some (.ref f)
  b : Binds K fd ps []
section
variable {X : Cx} {k : Nat} {x : Str} {st : Stmt} {ps : List Str} {sp : Sp} {p pos : Pos} {e : Expr} {es : List Expr} {t : TA} {te : TE}
theorem pe_cd {d : Df X.K X.mg x st ps} (G : FnOk X.prog X.w X.K X.mg X.base CX0 k d.f d.fd ps sp) (hr : Room k X.A) (ha : PA X (e :: es) t) (hg : Gl X x := by rfl) (hdb : (x == ("__debug__" : Str)) = false := by decide)
    (he : starEach (e :: es) X.env = (false, eval e X.env) :: starEach es X.env := by rfl) (hpl : (backTo pos (starEach es X.env)).any (·.1) = false := by rfl) : PE X (.Call (.Name x p) (e :: es) [] pos) (tCall sp [] E0 t) :=
  pe_call G hr hg d.g d.F.kp d.b .nil pass0 ha hdb he hpl
theorem pe_cdLent {d : Df X.K X.mg x st ps} (G : FnOk X.prog X.w X.K X.mg X.base CX0 k d.f d.fd ps sp) (hr : Room k X.A) (un : UniqC X.env.cells) (hfn : ∀ x, X.fn x = true) (ha : PA X (e :: es) t) (hg : Gl X x := by rfl) (hdb : (x == ("__debug__" : Str)) = false := by decide)
    (he : starEach (e :: es) X.env = (false, eval e X.env) :: starEach es X.env := by rfl) (hpl : (backTo pos (starEach es X.env)).any (·.1) = false := by rfl) : PE X (.Call (.Name x p) (e :: es) [] pos) (tCallLent X sp t) :=
  pe_callLent G hr hg d.g d.F.kp d.b un hfn (fun _ _ _ _ z => z) ha hdb he hpl
/-- len(e): a list, a tuple -/
def rLen1 (K : PySem.W.Frag) : List V → Hp → VK → Prop := fun xs H Q => ∃ p ys, xs = [V.ref p] ∧ (SqL K H p ys ∨ SqT K H p ys) ∧ Q (.int (ys.length : Nat)) H
theorem pe_len (mL : X.mg "len" = none) (h : PE X e te) (hg : Gl X "len" := by rfl) (he : starEach [e] X.env = (false, eval e X.env) :: starEach [] X.env := by rfl) (hpl : (backTo pos (starEach [] X.env)).any (·.1) = false := by rfl) :
    PE X (.Call (.Name "len" p) [e] [] pos) (tCB (rLen1 X.K) (tCons te tNil)) :=
  pe_callB call_len_seq hg mL PySem.boot_len (pa_cons h pa_nil he) (by decide) (by decide) he hpl
end
theorem hu65 {A : Around} {k : Nat} (hr : Room k A) : A.units + 65 < cLine := Nat.lt_of_le_of_lt (Nat.add_le_add_left (by decide : 65 ≤ 200) _) (Nat.lt_of_le_of_lt (by omega) hr.un)
/-! ### cells: no name twice -/
theorem cells_keys : ∀ (names : List (Str × NameKind)) (n : Nat) (acc : List (Str × Addr)), (names.map (·.1)).Nodup → (acc.map (·.1)).Nodup → (∀ x ∈ names.map (·.1), x ∉ acc.map (·.1)) → ((cellsFrom n names acc).map (·.1)).Nodup
  | [], n, acc, _, h, _ => h
  | (y, k) :: r, n, acc, h1, h2, h3 => by
    rw [List.map_cons, List.nodup_cons] at h1
    unfold cellsFrom
    split
    · refine cells_keys r (n + 1) _ h1.2 ?_ fun x hx => ?_
      · rw [List.map_cons, List.nodup_cons]
        exact ⟨h3 y (by rw [List.map_cons]; exact List.mem_cons_self), h2⟩
      · rw [List.map_cons, List.mem_cons, not_or]
        refine ⟨fun e => ?_, h3 x (by rw [List.map_cons]; exact List.mem_cons_of_mem _ hx)⟩
        subst e
        exact h1.1 hx
    · exact cells_keys r n acc h1.2 h2 fun x hx => h3 x (by rw [List.map_cons]; exact List.mem_cons_of_mem _ hx)
theorem lookup_of_keys : ∀ {cs : List (Str × Addr)} {x : Str} {c : Addr}, (cs.map (·.1)).Nodup → (x, c) ∈ cs → cs.lookup x = some c
  | (y, d) :: r, x, c, h, hm => by
    rw [List.map_cons, List.nodup_cons] at h
    rw [List.lookup_cons]
    rcases List.mem_cons.mp hm with e | e
    · cases e
      simp
    · have hx : (x == y) = false := beq_eq_false_iff_ne.mpr fun z => by
        subst z
        exact h.1 (List.mem_map.mpr ⟨_, e, rfl⟩)
      rw [hx]
      exact lookup_of_keys h.2 e
theorem uniq_cells {names : List (Str × NameKind)} {n : Nat} (h : (names.map (·.1)).Nodup) : UniqC (cellsFrom n names []) := fun b hb => by
  obtain ⟨⟨x, c⟩, hm, e⟩ := List.mem_map.mp hb
  have e : c = b := e
  subst e
  exact ⟨x, lookup_of_keys (cells_keys names n [] h (by simp) (by simp)) hm⟩
end Ord
namespace Ord
open PySem PySem.Spec PyProof.Rows L2 LamX
theorem Same.new {H : Hp} {p : Addr} {o : HO} (n : H p = none) : Same H (upd H p o) := fun b u e => by rw [upd_ne (ne_of_none e n)]; exact e
/-- behind a new object -/
theorem kn {H : Hp} {p b : Addr} {o u : HO} (n : H p = none) (e : H b = some u) : upd H p o b = some u := (upd_ne (ne_of_none e n)).trans e
end Ord

/-! What the laws' helpers compute. -/
namespace Mir
def cellI (ns : List Int) (k : Nat) : Int := if ns = [] then (k : Int) * 7919 else ns.getD (k % ns.length) 0 + ((k / ns.length : Nat) : Int) * 104729
def moreI (c : Int) (k : Nat) : Int := (c * 6364136223846793005 + ((k : Int) + 1) * 1442695040888963407) % 340282366920938463463374607431768211507
def drawn (c : Int) (k : Nat) : Int := moreI c k * moreI c k % 340282366920938463463374607431768211297
theorem moreI_nn (c : Int) (k : Nat) : 0 ≤ moreI c k ∧ moreI c k < 340282366920938463463374607431768211507 := ⟨Int.emod_nonneg _ (by decide), Int.emod_lt_of_pos _ (by decide)⟩
theorem drawn_nn (c : Int) (k : Nat) : 0 ≤ drawn c k ∧ drawn c k < 340282366920938463463374607431768211297 := ⟨Int.emod_nonneg _ (by decide), Int.emod_lt_of_pos _ (by decide)⟩
/-- the law's draw at a cell -/
def dr (ns : List Int) (c k : Nat) : Int := drawn (cellI ns c) k
theorem dr_nn (ns : List Int) (c k : Nat) : 0 ≤ dr ns c k ∧ dr ns c k < 340282366920938463463374607431768211297 := drawn_nn _ _
/-! ### the least power of two -/
def clog (n : Nat) : Nat := if n ≤ 1 then 0 else clog ((n + 1) / 2) + 1
decreasing_by omega
theorem clog_lt : ∀ (k n : Nat), 2 ^ k < n ↔ k < clog n
  | 0, n => by
    rw [clog]
    split
    · simp; omega
    · simp; omega
  | k + 1, n => by
    have ih := clog_lt k ((n + 1) / 2)
    rw [clog]
    have e : 2 ^ (k + 1) = 2 * 2 ^ k := by rw [Nat.pow_succ]; omega
    split
    · have : 0 < 2 ^ k := Nat.pow_pos (by decide)
      omega
    · rw [e]
      omega
theorem clog_le {n k : Nat} : clog n ≤ k ↔ n ≤ 2 ^ k := by
  have h := clog_lt k n
  omega
theorem le_clog (n : Nat) : n ≤ 2 ^ clog n := clog_le.mp (Nat.le_refl _)
theorem clog_mono {m n : Nat} (h : m ≤ n) : clog m ≤ clog n := clog_le.mpr (Nat.le_trans h (le_clog n))
theorem clog_le_self (n : Nat) : clog n ≤ n := clog_le.mpr (Nat.le_of_lt Nat.lt_two_pow_self)
/-! ### the six orders -/
def b01 (b : Bool) : Int := if b then 1 else 0
def ansI (way : Int) (x y : Int × Int) : Int :=
  if way = 1 then 0 - (x.1 - y.1) else if way = 2 then x.1 / 3 - y.1 / 3
  else if way = 3 then (b01 (decide (0 < x.1 - y.1)) - b01 (decide (x.1 - y.1 < 0))) * (1 + (if x.2 < 0 then -x.2 else x.2) % 9)
  else if way = 4 then (x.1 - y.1) * 100000000000000000000
  else if way = 5 then (if x.1 - 4 < 0 then -(x.1 - 4) else x.1 - 4) - (if y.1 - 4 < 0 then -(y.1 - 4) else y.1 - 4)
  else x.1 - y.1
def keyI (way : Int) (x : Int × Int) : Int :=
  if way = 1 then 0 - x.1 else if way = 2 then x.1 / 3 else if way = 5 then (if x.1 - 4 < 0 then -(x.1 - 4) else x.1 - 4) else x.1
/-- answers that tell an order by a key -/
structure KeyA {α : Type} (ans : List (α × α) → α → α → Int) (key : α → Int) : Prop where
  pos : ∀ l x y, 0 < ans l x y ↔ key y < key x
  neg : ∀ l x y, ans l x y < 0 ↔ key x < key y
theorem KeyA.le {α : Type} {ans : List (α × α) → α → α → Int} {key : α → Int} (h : KeyA ans key) (l : List (α × α)) (x y : α) : ans l x y ≤ 0 ↔ key x ≤ key y := by
  have := h.pos l x y
  omega
theorem KeyA.eq {α : Type} {ans : List (α × α) → α → α → Int} {key : α → Int} (h : KeyA ans key) (l : List (α × α)) (x y : α) : ans l x y = 0 ↔ key x = key y := by
  have h1 := h.pos l x y
  have h2 := h.neg l x y
  omega
theorem KeyA.ge {α : Type} {ans : List (α × α) → α → α → Int} {key : α → Int} (h : KeyA ans key) (l : List (α × α)) (x y : α) : 0 ≤ ans l x y ↔ key y ≤ key x := by
  have h2 := h.neg l x y
  omega
theorem ansI_pos (way : Int) (x y : Int × Int) : (0 < ansI way x y ↔ keyI way y < keyI way x) ∧ (ansI way x y < 0 ↔ keyI way x < keyI way y) := by
  unfold ansI keyI
  by_cases h1 : way = 1
  · simp only [if_pos h1]; omega
  · by_cases h2 : way = 2
    · simp only [if_neg h1, if_pos h2]; omega
    · by_cases h3 : way = 3
      · have n5 : ¬ way = 5 := by omega
        simp only [if_neg h1, if_neg h2, if_pos h3, if_neg n5]
        obtain ⟨m, hm, hm1⟩ : ∃ m : Int, (1 + (if x.2 < 0 then -x.2 else x.2) % 9) = m ∧ 0 < m := ⟨_, rfl, by
          have := Int.emod_nonneg (if x.2 < 0 then -x.2 else x.2) (show (9 : Int) ≠ 0 by decide)
          omega⟩
        rw [hm]
        unfold b01
        by_cases a : 0 < x.1 - y.1
        · have b : ¬ x.1 - y.1 < 0 := by omega
          simp only [decide_eq_true a, decide_eq_false b, if_true, Bool.false_eq_true, if_false]
          omega
        · by_cases b : x.1 - y.1 < 0
          · simp only [decide_eq_false a, decide_eq_true b, if_true, Bool.false_eq_true, if_false]
            omega
          · simp only [decide_eq_false a, decide_eq_false b, Bool.false_eq_true, if_false]
            omega
      · by_cases h4 : way = 4
        · have n5 : ¬ way = 5 := by omega
          simp only [if_neg h1, if_neg h2, if_neg h3, if_pos h4, if_neg n5]; omega
        · by_cases h5 : way = 5
          · simp only [if_neg h1, if_neg h2, if_neg h3, if_neg h4, if_pos h5]; omega
          · simp only [if_neg h1, if_neg h2, if_neg h3, if_neg h4, if_neg h5]; omega
theorem keyA_of {α : Type} (way : Int) (c : α → Int × Int) : KeyA (fun _ x y => ansI way (c x) (c y)) (fun x => keyI way (c x)) := ⟨fun _ x y => (ansI_pos way (c x) (c y)).1, fun _ x y => (ansI_pos way (c x) (c y)).2⟩
/-! ### the stable order, element by element -/
section
variable {α : Type}
def plc (key : α → Int) (made : List α) (e : α) : Nat → Nat
  | 0 => 0
  | n + 1 => match made[n]? with
    | some z => if key e < key z then plc key made e n else n + 1
    | none => n + 1
def ins1 (key : α → Int) (made : List α) (e : α) : List α := made.take (plc key made e made.length) ++ [e] ++ made.drop (plc key made e made.length)
def isort (key : α → Int) (xs : List α) : List α := xs.foldl (ins1 key) []
theorem plc_le (key : α → Int) (made : List α) (e : α) : ∀ n, plc key made e n ≤ n
  | 0 => Nat.le_refl 0
  | n + 1 => by
    have ih := plc_le key made e n
    unfold plc
    split
    · split
      · omega
      · omega
    · omega
theorem ins1_len (key : α → Int) (made : List α) (e : α) : (ins1 key made e).length = made.length + 1 := by
  have h := plc_le key made e made.length
  unfold ins1
  simp only [List.length_append, List.length_take, List.length_drop, List.length_singleton]
  omega
theorem isort_snoc (key : α → Int) (xs : List α) (e : α) : isort key (xs ++ [e]) = ins1 key (isort key xs) e := by
  unfold isort
  rw [List.foldl_append]
  rfl
theorem isort_len (key : α → Int) (xs : List α) : (isort key xs).length = xs.length := by
  have : ∀ (ys : List α) (acc : List α), (ys.foldl (ins1 key) acc).length = acc.length + ys.length := by
    intro ys
    induction ys with
    | nil => intro acc; simp
    | cons y ys ih => intro acc; rw [List.foldl_cons, ih, ins1_len, List.length_cons]; omega
  unfold isort
  rw [this]
  simp
theorem ins1_mem {key : α → Int} {made : List α} {e z : α} (h : z ∈ ins1 key made e) : z ∈ made ∨ z = e := by
  unfold ins1 at h
  rcases List.mem_append.mp h with h | h
  · rcases List.mem_append.mp h with h | h
    · exact .inl (List.mem_of_mem_take h)
    · exact .inr (List.mem_singleton.mp h)
  · exact .inl (List.mem_of_mem_drop h)
theorem isort_mem {key : α → Int} {xs : List α} {z : α} (h : z ∈ isort key xs) : z ∈ xs := by
  have : ∀ (ys : List α) (acc : List α), z ∈ ys.foldl (ins1 key) acc → z ∈ acc ∨ z ∈ ys := by
    intro ys
    induction ys with
    | nil => intro acc q; exact .inl q
    | cons y ys ih =>
      intro acc q
      rw [List.foldl_cons] at q
      rcases ih _ q with q | q
      · rcases ins1_mem q with q | q
        · exact .inl q
        · exact .inr (by rw [q]; exact List.mem_cons_self)
      · exact .inr (List.mem_cons_of_mem _ q)
  rcases this xs [] h with q | q
  · cases q
  · exact q
end
end Mir
namespace Mir
section
variable {α : Type}
theorem plc_zero (key : α → Int) (made : List α) (e : α) : plc key made e 0 = 0 := by unfold plc; rfl
theorem plc_lt {key : α → Int} {made : List α} {e z : α} {n : Nat} (h : made[n]? = some z) (hz : key e < key z) : plc key made e (n + 1) = plc key made e n := by
  rw [plc]
  rw [h]
  exact if_pos hz
theorem plc_ge {key : α → Int} {made : List α} {e z : α} {n : Nat} (h : made[n]? = some z) (hz : ¬ key e < key z) : plc key made e (n + 1) = n + 1 := by
  rw [plc]
  rw [h]
  exact if_neg hz
end
end Mir

namespace Ord
open PySem PySem.Spec PyProof.Rows L2 LamX
/-! ### elements: pairs of whole numbers -/
def pd (e : Int × Int) : PyData := .tuple [.int e.1, .int e.2]
/-- x is a tuple of the two numbers e -/
def Pr (H : Hp) (x : V) (e : Int × Int) : Prop := ∃ p, x = .ref p ∧ H p = some (.tup [.int e.1, .int e.2])
/-- what stands at an element -/
def cnt (H : Hp) (x : V) : Int × Int := match x with
  | .ref p => (match H p with
    | some (.tup [.int a, .int b]) => (a, b)
    | _ => (0, 0))
  | _ => (0, 0)
theorem Pr.tk {H H' : Hp} {x : V} {e : Int × Int} (h : Pr H x e) (k : TK H H') : Pr H' x e := by
  obtain ⟨p, e1, e2⟩ := h
  exact ⟨p, e1, k _ _ e2⟩
theorem Pr.cnt {H : Hp} {x : V} {e : Int × Int} (h : Pr H x e) : Ord.cnt H x = e := by
  obtain ⟨p, rfl, e2⟩ := h
  unfold Ord.cnt
  simp only [e2]
theorem Pr.inj {H : Hp} {x : V} {e e' : Int × Int} (h : Pr H x e) (h' : Pr H x e') : e = e' := by rw [← h.cnt, h'.cnt]
/-- numbers that may be multiplied -/
def Sm (i : Int) : Prop := i.natAbs < 2 ^ 200
theorem Sm.of {i : Int} (h1 : -(2 ^ 199) ≤ i) (h2 : i ≤ 2 ^ 199) : Sm i := by
  unfold Sm
  have e : (2 : Int) ^ 199 = ((2 ^ 199 : Nat) : Int) := by norm_cast
  rw [e] at h1 h2
  have e2 : (2 : Nat) ^ 200 = 2 ^ 199 + 2 ^ 199 := by decide
  have e3 : 0 < (2 : Nat) ^ 199 := by decide
  omega
def Sn (i : Int) : Prop := i.natAbs < 2 ^ 190
theorem Sn.sub {i j : Int} (h1 : Sn i) (h2 : Sn j) : Sm (i - j) := by
  unfold Sn at h1 h2
  unfold Sm
  have e : (2 : Nat) ^ 190 + 2 ^ 190 ≤ 2 ^ 200 := by decide
  omega
theorem Sn.of {i : Int} (h1 : -1000000000000000000000000000000000000000 ≤ i) (h2 : i ≤ 1000000000000000000000000000000000000000) : Sn i := by
  unfold Sn
  have e : 1000000000000000000000000000000000000000 < (2 : Nat) ^ 190 := by decide
  omega
/-- an element of contents c x -/
def El (c : V → Int × Int) (x : V) (H : Hp) : Prop := Pr H x (c x) ∧ Sn (c x).1 ∧ Sn (c x).2
theorem El.tk {c : V → Int × Int} {x : V} {H H' : Hp} (k : TK H H') (h : El c x H) : El c x H' := ⟨h.1.tk k, h.2⟩
def Els (c : V → Int × Int) (xs : List V) (H : Hp) : Prop := ∀ x ∈ xs, El c x H
theorem Els.tk {c : V → Int × Int} {xs : List V} {H H' : Hp} (h : Els c xs H) (k : TK H H') : Els c xs H' := fun x hx => (h x hx).tk k
theorem El.now {c : V → Int × Int} {x : V} {H : Hp} (h : El c x H) : El (cnt H) x H := by
  obtain ⟨a, b1, b2⟩ := h
  have e := a.cnt
  exact ⟨by rw [e]; exact a, by rw [e]; exact b1, by rw [e]; exact b2⟩
theorem El.eqc {c : V → Int × Int} {x : V} {H : Hp} (h : El c x H) : cnt H x = c x := h.1.cnt
theorem Els.now {c : V → Int × Int} {xs : List V} {H : Hp} (h : Els c xs H) : Els (cnt H) xs H := fun x hx => (h x hx).now
/-! ### as data -/
theorem dp_el {K : PySem.W.Frag} {H : Hp} {x : V} {e : Int × Int} (h : Pr H x e) : Dp K H x (pd e) := by
  obtain ⟨p, rfl, e2⟩ := h
  exact .tup (SqT.of e2) (.cons (.int _) (.cons (.int _) .nil))
theorem dp_els {K : PySem.W.Frag} {H : Hp} {c : V → Int × Int} : ∀ {xs : List V}, Els c xs H → DpAll K H xs (xs.map fun x => pd (c x))
  | [], _ => .nil
  | x :: xs, h => .cons (dp_el (h x List.mem_cons_self).1) (dp_els fun y hy => h y (List.mem_cons_of_mem _ hy))
theorem dp_row {K : PySem.W.Frag} {H : Hp} {c : V → Int × Int} {a : Addr} {xs : List V} (s : SqL K H a xs) (h : Els c xs H) : Dp K H (.ref a) (.list (xs.map fun x => pd (c x))) := .lst s (dp_els h)
theorem dp_ints {K : PySem.W.Frag} {H : Hp} : ∀ (ns : List Int), DpAll K H (ns.map V.int) (ns.map PyData.int)
  | [] => .nil
  | n :: ns => .cons (.int n) (dp_ints ns)
theorem canLay_pd (e : Int × Int) : (pd e).canLay0 = true := by simp [pd, PyData.canLay0, PyData.canLayAll0]
theorem depth_pd (e : Int × Int) : (pd e).depth ≤ 4 := by simp [pd, PyData.depth, PyData.depthAll]
theorem canLayAll_pd {α : Type} (g : α → Int × Int) : ∀ xs : List α, PyData.canLayAll0 (xs.map fun x => pd (g x)) = true
  | [] => rfl
  | x :: xs => by
    rw [List.map_cons, PyData.canLayAll0, canLay_pd, canLayAll_pd g xs]
    rfl
theorem depthAll_pd {α : Type} (g : α → Int × Int) : ∀ xs : List α, PyData.depthAll (xs.map fun x => pd (g x)) ≤ 4
  | [] => by simp [PyData.depthAll]
  | x :: xs => by
    have h1 := depth_pd (g x)
    have h2 := depthAll_pd g xs
    rw [List.map_cons, PyData.depthAll]
    omega
theorem shaped_of {d : PyData} (h1 : d.canLay0 = true) (h2 : d.depth ≤ 64) : SeqAt.shaped d = true := by
  unfold SeqAt.shaped
  rw [h1, decide_eq_true h2]
  rfl
theorem shaped_pd (e : Int × Int) : SeqAt.shaped (pd e) = true := shaped_of (canLay_pd e) (Nat.le_trans (depth_pd e) (by decide))
theorem shaped_row {α : Type} (g : α → Int × Int) (xs : List α) : SeqAt.shaped (.list (xs.map fun x => pd (g x))) = true := by
  have h := depthAll_pd g xs
  refine shaped_of (by rw [PyData.canLay0]; exact canLayAll_pd g xs) ?_
  rw [PyData.depth]
  omega
theorem shaped_nil : SeqAt.shaped (.list []) = true := shaped_row (fun x : Int × Int => x) []
theorem shaped_ints (ns : List Int) : SeqAt.shaped (.list (ns.map PyData.int)) = true := by
  have a : ∀ ns : List Int, PyData.canLayAll0 (ns.map PyData.int) = true ∧ PyData.depthAll (ns.map PyData.int) ≤ 1 := by
    intro ns
    induction ns with
    | nil => exact ⟨rfl, by simp [PyData.depthAll]⟩
    | cons n ns ih =>
      rw [List.map_cons, PyData.canLayAll0, PyData.depthAll, ih.1]
      refine ⟨rfl, ?_⟩
      have : (PyData.int n).depth ≤ 1 := by simp [PyData.depth]
      omega
  refine shaped_of (by rw [PyData.canLay0]; exact (a ns).1) ?_
  rw [PyData.depth]
  have := (a ns).2
  omega
theorem eqv_pd (a b : Int × Int) : PyData.eqv (pd a) (pd b) = decide (a = b) := by
  obtain ⟨a1, a2⟩ := a
  obtain ⟨b1, b2⟩ := b
  unfold pd
  rw [PyData.eqv, PyData.eqvAll, PyData.eqvAll, PyData.eqvAll, PyData.eqv, PyData.eqv]
  by_cases h1 : a1 = b1
  · by_cases h2 : a2 = b2
    · subst h1 h2
      simp
    · simp [h1, h2]
  · simp [h1]
theorem eqvAll_pd {α β : Type} (g : α → Int × Int) (g' : β → Int × Int) : ∀ (xs : List α) (ys : List β), PyData.eqvAll (xs.map fun x => pd (g x)) (ys.map fun x => pd (g' x)) = decide (xs.map g = ys.map g')
  | [], [] => by rw [List.map_nil, List.map_nil, List.map_nil, PyData.eqvAll]; simp
  | [], y :: ys => by rw [List.map_nil, List.map_cons, PyData.eqvAll]; simp
  | x :: xs, [] => by rw [List.map_cons, List.map_nil, PyData.eqvAll]; simp
  | x :: xs, y :: ys => by
    rw [List.map_cons, List.map_cons, PyData.eqvAll, eqv_pd, eqvAll_pd g g' xs ys]
    by_cases h1 : g x = g' y
    · by_cases h2 : xs.map g = ys.map g'
      · simp [h1, h2]
      · simp [h1, h2]
    · simp [h1]
theorem eqv_row {α β : Type} (g : α → Int × Int) (g' : β → Int × Int) (xs : List α) (ys : List β) : PyData.eqv (.list (xs.map fun x => pd (g x))) (.list (ys.map fun x => pd (g' x))) = decide (xs.map g = ys.map g') := by
  rw [PyData.eqv]
  exact eqvAll_pd g g' xs ys
theorem eqv_ints_nil (ns : List Int) : PyData.eqv (.list (ns.map PyData.int)) (.list []) = decide (ns = []) := by
  cases ns with
  | nil => rw [List.map_nil, PyData.eqv, PyData.eqvAll]; simp
  | cons n ns => rw [List.map_cons, PyData.eqv, PyData.eqvAll]; simp
theorem any_pd {α : Type} (g : α → Int × Int) (e : Int × Int) (xs : List α) : (xs.map fun x => pd (g x)).any (fun z => PyData.eqv z (pd e)) = decide (e ∈ xs.map g) := by
  induction xs with
  | nil => simp
  | cons x xs ih =>
    rw [List.map_cons, List.any_cons, ih, eqv_pd, List.map_cons]
    by_cases h1 : g x = e
    · simp [h1]
    · by_cases h2 : e ∈ xs.map g
      · simp [h2]
      · have h3 : ¬ e = g x := fun z => h1 z.symm
        simp [h1, h2, h3]
/-! ### great numbers -/
def CMulB (i j : Int) : Prop := Sm i ∧ Sm j
section
variable {X : Cx}
theorem op_mulB : OpR X (binaryOp .Mult) (rE CMulB fun i j => i * j) := by
  intro pins s σ H x y v u Q I rx ry q
  obtain ⟨i, j, z, e1, e2, ⟨h1, h2⟩, rfl, q⟩ := q
  exact op_mulW pins s σ H x y v u Q I rx ry ⟨i, j, e1, e2, wide_mul (a := 200) (b := 200) h1 h2 (by decide) (by decide) (by decide), q⟩
end
end Ord
namespace Ord
open PySem PySem.Spec PyProof.Rows L2 LamX
/-! ### the same rules, the written part named (for comprehensions) -/
section
variable {X : Cx} {K : PySem.W.Frag} {e : Expr} {te : TE} {p pos : Pos} {f : Str}
theorem ix_listK (hK : X.K = K := by rfl) : IxR X (rIxL K) := hK ▸ ix_list
theorem ix_tupK (hK : X.K = K := by rfl) : IxR X (rIxT K) := hK ▸ ix_tup
theorem sl_listK (hK : X.K = K := by rfl) : SlR X (rSlL K) := hK ▸ sl_list
theorem op_eqDK (hu : X.A.units + 64 < cLine) (hK : X.K = K := by rfl) : OpR X (compareOp .Eq) (rEqD K) := hK ▸ op_eqD hu
theorem op_neDK (hu : X.A.units + 64 < cLine) (hK : X.K = K := by rfl) : OpR X (compareOp .NotEq) (rNeD K) := hK ▸ op_neD hu
theorem op_inDK (hu : X.A.units + 65 < cLine) (hK : X.K = K := by rfl) : OpR X (compareOp .In) (rInD K) := hK ▸ op_inD hu
theorem op_notInDK (hu : X.A.units + 65 < cLine) (hK : X.K = K := by rfl) : OpR X (compareOp .NotIn) (rNotInD K) := hK ▸ op_notInD hu
theorem pe_lenK (mL : X.mg "len" = none) (h : PE X e te) (hK : X.K = K := by rfl) (hg : Gl X "len" := by rfl) (he : starEach [e] X.env = (false, eval e X.env) :: starEach [] X.env := by rfl) (hpl : (backTo pos (starEach [] X.env)).any (·.1) = false := by rfl) :
    PE X (.Call (.Name "len" p) [e] [] pos) (tCB (rLen1 K) (tCons te tNil)) := hK ▸ pe_len mL h hg he hpl
end
end Ord
namespace Ord
open PySem PySem.Spec PyProof.Rows L2 LamX
section
variable {X : Cx} {K : PySem.W.Frag} {e : Expr} {te : TE} {p pos : Pos} {f : Str}
theorem pg_tupK {es : List Expr} {k : Nat} {t : TGs} {n : Nat} (hc : X.calm = true) (h : PGs X es t) (hK : X.K = K := by rfl)
    (hn : (assignEach es X.env).length = n := by rfl) (hst : (assignEach es X.env).findIdx? (·.1) = none := by rfl) : PG X (.Tuple es k pos) (gTup K n t) := hK ▸ pg_tup hc h hn hst
theorem cr_allK (hc : X.calm = true) (hK : X.K = K := by rfl) : CallR X (.builtin "all") (rAll K) := hK ▸ cr_all hc
theorem cr_anyK (hc : X.calm = true) (hK : X.K = K := by rfl) : CallR X (.builtin "any") (rAny K) := hK ▸ cr_any hc
theorem pe_fldK (he : PE X e te) (hb : attributeBase e f X.env (eval e X.env) = eval e X.env) (hK : X.K = K := by rfl) : PE X (.Attribute e f pos) (tFld K te f) := hK ▸ pe_fld he hb
end
end Ord

namespace Ord
open PySem PySem.Spec PyProof.Rows L2 LamX
section
variable {P : Program} {w : World} {K : PySem.W.Frag} {mg : Str → Option Value} {base : Heap}
/-! ### _law_cell -/
def N__law_cell : List Str := ["_law_script", "_law_k"]
theorem sc__law_cell : FnScope ["_law_script", "_law_k"] ["_law_script", "_law_k"] (defScope st__law_cell) := ⟨rfl, rfl, rfl, by decide +kernel, rfl, by decide +kernel, by decide +kernel⟩
def spCellK (K : PySem.W.Frag) : Sp := fun vs H Q _ => ∃ (a : Addr) (ns : List Int) (k : Nat), vs = [.ref a, .int (k : Int)] ∧ SqL K H a (ns.map V.int) ∧ ns.length ≤ 1000 ∧ ∀ H', Same H H' → Q (.int (Mir.cellI ns k)) H'
theorem ok_cell (d__law_cell : Df K mg "_law_cell" st__law_cell ["_law_script", "_law_k"]) (mLen : mg "len" = none) : FnOk P w K mg base CX0 1 d__law_cell.f d__law_cell.fd ["_law_script", "_law_k"] (spCellK K) := by
  refine d__law_cell.F.ok sc__law_cell (fun vs H Q E h => ?_) (fun cdv A outer s H vs Q E hr h => ?_)
  · obtain ⟨a, ns, k, rfl, _⟩ := h
    rfl
  · obtain ⟨a, ns, k, rfl, hS, hz, hQ⟩ := h
    refine ⟨_, (pss_cons (ps_if (pt_cmpR (op_eqD hr.units) (pv 0) (pe_lst pa_nil) (nomark _))
    (pss_one (ps_ret (pe_op op_mulE (pv 1) pe_int)))
    pss_nil)
  (pss_one (ps_ret (pe_op op_addE (pe_ix ix_list (pv 0) (pe_op op_modE (pv 1) (pe_len mLen (pv 0))) (fun _ _ => rfl)) (pe_op op_mulE (pe_op op_fdivE (pv 1) (pe_len mLen (pv 0))) pe_int))))), ?_⟩
    refine ⟨_, rfl, Nat.zero_le _, fun p np => ?_⟩
    have s1 : Same H (upd H p (.lst [])) := fun b o e => by rw [upd_ne (ne_of_none e np)]; exact e
    have hS1 := s1.seq hS
    have el : ((ns.map V.int).length) = ns.length := List.length_map _
    refine ⟨.list (ns.map PyData.int), .list [], .lst hS1 (dp_ints ns), .lst (SqL.of upd_same) .nil, shaped_ints ns, shaped_nil, _, rfl, ?_⟩
    rw [eqv_ints_nil]
    refine iteD (fun h0 => ?_) (fun h0 => ?_)
    · refine ⟨_, rfl, _, _, _, rfl, rfl, .inr ⟨by decide, by decide⟩, rfl, ?_⟩
      have e : Mir.cellI ns k = (k : Int) * 7919 := if_pos h0
      rw [e] at hQ
      exact hQ _ s1
    · have hp : 0 < ns.length := List.length_pos_iff.mpr h0
      have hm : k % ns.length < ns.length := Nat.mod_lt _ hp
      refine ⟨_, rfl, _, rfl, _, rfl, a, _, rfl, .inl hS1, _, _, ((k % ns.length : Nat) : Int), rfl, rfl, by omega, by show ((k % ns.length : Nat) : Int) = (k : Int) % ((ns.map V.int).length : Nat); rw [el]; omega, ?_⟩
      refine ⟨a, _, _, .int (ns.getD (k % ns.length) 0), rfl, rfl, hS1, atI_nat (by rw [List.getElem?_map, List.getElem?_eq_getElem hm, List.getD_eq_getElem?_getD, List.getElem?_eq_getElem hm]; rfl), ?_⟩
      refine ⟨_, rfl, _, rfl, a, _, rfl, .inl hS1, _, _, ((k / ns.length : Nat) : Int), rfl, rfl, ⟨by omega, by omega⟩, by show ((k / ns.length : Nat) : Int) = (k : Int) / ((ns.map V.int).length : Nat); rw [el]; omega, ?_⟩
      refine ⟨_, _, _, rfl, rfl, .inr ⟨by decide, by decide⟩, rfl, _, _, _, rfl, rfl, rfl, ?_⟩
      have e : Mir.cellI ns k = ns.getD (k % ns.length) 0 + ((k / ns.length : Nat) : Int) * 104729 := if_neg h0
      rw [e] at hQ
      exact hQ _ s1
/-! ### _law_drawn -/
def N__law_drawn : List Str := ["_law_cell_here", "_law_k", "_law_more"]
theorem sc__law_drawn : FnScope ["_law_cell_here", "_law_k", "_law_more"] ["_law_cell_here", "_law_k"] (defScope st__law_drawn) := ⟨rfl, rfl, rfl, by decide +kernel, rfl, by decide +kernel, by decide +kernel⟩
def spDrawn : Sp := fun vs H Q _ => ∃ (c : Int) (k : Nat), vs = [.int c, .int (k : Int)] ∧ Q (.int (Mir.drawn c k)) H
theorem sm_more (c : Int) (k : Nat) : Sm (Mir.moreI c k) := by
  have h := Mir.moreI_nn c k
  refine Sm.of ?_ ?_
  · have : (0 : Int) ≤ 2 ^ 199 := by decide
    omega
  · have : (340282366920938463463374607431768211507 : Int) ≤ 2 ^ 199 := by decide
    omega
theorem ok_drawn (d__law_drawn : Df K mg "_law_drawn" st__law_drawn ["_law_cell_here", "_law_k"]) : FnOk P w K mg base CX0 1 d__law_drawn.f d__law_drawn.fd ["_law_cell_here", "_law_k"] spDrawn := by
  refine d__law_drawn.F.ok sc__law_drawn (fun vs H Q E h => ?_) (fun cdv A outer s H vs Q E hr h => ?_)
  · obtain ⟨c, k, rfl, _⟩ := h
    rfl
  · obtain ⟨c, k, rfl, hQ⟩ := h
    have nd := sc__law_drawn.nd
    refine ⟨_, (pss_cons (ps_set (i := 2) nd rfl (Or.inl rfl) (pe_op op_modE (pe_op op_addE (pe_op op_mulE (pv 0) pe_int) (pe_op op_mulE (pe_op op_addE (pv 1) pe_int) pe_int)) pe_int))
  (pss_one (ps_ret (pe_op op_modE (pe_op op_mulB (pv 2) (pv 2)) pe_int)))), ?_⟩
    refine ⟨_, rfl, _, _, _, rfl, rfl, .inr ⟨by decide, by decide⟩, rfl, _, rfl, _, _, _, rfl, rfl, rfl, _, _, _, rfl, rfl, .inr ⟨by decide, by decide⟩, rfl, _, _, _, rfl, rfl, rfl, _, _, Mir.moreI c k, rfl, rfl, (by show (0 : Int) < 340282366920938463463374607431768211507; decide), rfl, ?_⟩
    refine ⟨_, rfl, _, rfl, _, _, _, rfl, rfl, ⟨sm_more c k, sm_more c k⟩, rfl, _, _, Mir.drawn c k, rfl, rfl, (by show (0 : Int) < 340282366920938463463374607431768211297; decide), rfl, hQ⟩
end
end Ord

namespace Ord
open PySem PySem.Spec PyProof.Rows L2 LamX
theorem eqI {i j : Int} : V.int i = V.int j ↔ i = j := ⟨fun h => V.int.inj h, fun h => by rw [h]⟩
theorem iteI {i j : Int} {A B : Prop} (h1 : i = j → A) (h2 : ¬ i = j → B) : if decide (V.int i = V.int j) = true then A else B := iteD (fun e => h1 (eqI.mp e)) fun e => h2 fun z => e (eqI.mpr z)
section
variable {P : Program} {w : World} {K : PySem.W.Frag} {mg : Str → Option Value} {base : Heap}
/-! ### _law_answer -/
def N__law_answer : List Str := ["_law_way", "_law_one", "_law_other", "_law_gap"]
theorem sc__law_answer : FnScope ["_law_way", "_law_one", "_law_other", "_law_gap"] ["_law_way", "_law_one", "_law_other"] (defScope st__law_answer) := ⟨rfl, rfl, rfl, by decide +kernel, rfl, by decide +kernel, by decide +kernel⟩
def spAnswer : Sp := fun vs H Q _ => ∃ (way : Int) (x y : V) (ex ey : Int × Int), vs = [.int way, x, y] ∧ Pr H x ex ∧ Pr H y ey ∧ Sn ex.1 ∧ Sn ey.1 ∧ Q (.int (Mir.ansI way ex ey)) H
theorem ok_answer (d__law_answer : Df K mg "_law_answer" st__law_answer ["_law_way", "_law_one", "_law_other"]) (mInt : mg "int" = none) (mAbs : mg "abs" = none) : FnOk P w K mg base CX0 1 d__law_answer.f d__law_answer.fd ["_law_way", "_law_one", "_law_other"] spAnswer := by
  refine d__law_answer.F.ok sc__law_answer (fun vs H Q E h => ?_) (fun cdv A outer s H vs Q E hr h => ?_)
  · obtain ⟨way, x, y, ex, ey, rfl, _⟩ := h
    rfl
  · obtain ⟨way, x, y, ex, ey, rfl, ⟨p, rfl, hp⟩, ⟨q, rfl, hq⟩, s1, s2, hQ⟩ := h
    have nd := sc__law_answer.nd
    refine ⟨_, (pss_cons (ps_set (i := 3) nd rfl (Or.inl rfl) (pe_op op_subE (pe_ix ix_tup (pv 1) pe_int (fun _ _ => rfl)) (pe_ix ix_tup (pv 2) pe_int (fun _ _ => rfl))))
  (pss_cons (ps_if (pt_cmpR op_eq (pv 0) pe_int (nomark _))
    (pss_one (ps_ret (pe_op op_subE pe_int (pv 3))))
    pss_nil)
  (pss_cons (ps_if (pt_cmpR op_eq (pv 0) pe_int (nomark _))
    (pss_one (ps_ret (pe_op op_subE (pe_op op_fdivE (pe_ix ix_tup (pv 1) pe_int (fun _ _ => rfl)) pe_int) (pe_op op_fdivE (pe_ix ix_tup (pv 2) pe_int (fun _ _ => rfl)) pe_int))))
    pss_nil)
  (pss_cons (ps_if (pt_cmpR op_eq (pv 0) pe_int (nomark _))
    (pss_one (ps_ret (pe_op op_mulE (pe_op op_subE (pe_callTy call_int1 (by rfl) mInt (by decide +kernel) (pa_cons (pe_cmpR op_gt (pv 3) pe_int (nomark _)) pa_nil)) (pe_callTy call_int1 (by rfl) mInt (by decide +kernel) (pa_cons (pe_cmpR op_lt (pv 3) pe_int (nomark _)) pa_nil))) (pe_op op_addE pe_int (pe_op op_modE (pe_callB call_abs (by rfl) mAbs (by decide +kernel) (pa_cons (pe_ix ix_tup (pv 1) pe_int (fun _ _ => rfl)) pa_nil)) pe_int)))))
    pss_nil)
  (pss_cons (ps_if (pt_cmpR op_eq (pv 0) pe_int (nomark _))
    (pss_one (ps_ret (pe_op op_mulB (pv 3) (pe_op op_pow pe_int pe_int))))
    pss_nil)
  (pss_cons (ps_if (pt_cmpR op_eq (pv 0) pe_int (nomark _))
    (pss_one (ps_ret (pe_op op_subE (pe_callB call_abs (by rfl) mAbs (by decide +kernel) (pa_cons (pe_op op_subE (pe_ix ix_tup (pv 1) pe_int (fun _ _ => rfl)) pe_int) pa_nil)) (pe_callB call_abs (by rfl) mAbs (by decide +kernel) (pa_cons (pe_op op_subE (pe_ix ix_tup (pv 2) pe_int (fun _ _ => rfl)) pe_int) pa_nil)))))
    pss_nil)
  (pss_one (ps_ret (pv 3))))))))), ?_⟩
    refine ⟨_, rfl, p, _, 0, _, rfl, rfl, SqT.of hp, rfl, _, rfl, q, _, 0, _, rfl, rfl, SqT.of hq, rfl, _, _, ex.1 - ey.1, rfl, rfl, rfl, ?_⟩
    refine ⟨_, rfl, rfl, _, rfl, iteI (fun h1 => ?_) (fun h1 => ?_)⟩
    · refine ⟨_, rfl, _, _, Mir.ansI way ex ey, rfl, rfl, by unfold Mir.ansI; rw [if_pos h1], hQ⟩
    refine ⟨_, rfl, rfl, _, rfl, iteI (fun h2 => ?_) (fun h2 => ?_)⟩
    · refine ⟨_, rfl, p, _, 0, _, rfl, rfl, SqT.of hp, rfl, _, _, _, rfl, rfl, ⟨by decide, by decide⟩, rfl, _, rfl, q, _, 0, _, rfl, rfl, SqT.of hq, rfl, _, _, _, rfl, rfl, ⟨by decide, by decide⟩, rfl, _, _, Mir.ansI way ex ey, rfl, rfl, by unfold Mir.ansI; rw [if_neg h1, if_pos h2], hQ⟩
    refine ⟨_, rfl, rfl, _, rfl, iteI (fun h3 => ?_) (fun h3 => ?_)⟩
    · refine ⟨_, rfl, _, _, rfl, rfl, .inr ⟨_, rfl, _, rfl, _, _, rfl, rfl, .inr ⟨_, rfl, _, _, Mir.b01 (decide (0 < ex.1 - ey.1)) - Mir.b01 (decide (ex.1 - ey.1 < 0)), rfl, rfl, rfl, _, rfl, p, _, 1, _, rfl, rfl, SqT.of hp, rfl, _, rfl, _, _, _, rfl, rfl, (by show (0 : Int) < 9; decide), rfl, _, _, _, rfl, rfl, rfl, _, _, Mir.ansI way ex ey, rfl, rfl, .inl ?_, ?_, hQ⟩⟩⟩
      · unfold Mir.b01
        constructor <;> split <;> split <;> decide
      · unfold Mir.ansI
        rw [if_neg h1, if_neg h2, if_pos h3]
    refine ⟨_, rfl, rfl, _, rfl, iteI (fun h4 => ?_) (fun h4 => ?_)⟩
    · refine ⟨_, rfl, _, _, rfl, rfl, ⟨by decide, by decide, by decide⟩, _, _, Mir.ansI way ex ey, rfl, rfl, ⟨s1.sub s2, by unfold Sm; decide⟩, ?_, hQ⟩
      unfold Mir.ansI
      rw [if_neg h1, if_neg h2, if_neg h3, if_pos h4]
      congr 1
    refine ⟨_, rfl, rfl, _, rfl, iteI (fun h5 => ?_) (fun h5 => ?_)⟩
    · refine ⟨_, rfl, p, _, 0, _, rfl, rfl, SqT.of hp, rfl, _, _, _, rfl, rfl, rfl, _, rfl, _, rfl, q, _, 0, _, rfl, rfl, SqT.of hq, rfl, _, _, _, rfl, rfl, rfl, _, rfl, _, _, Mir.ansI way ex ey, rfl, rfl, ?_, hQ⟩
      unfold Mir.ansI
      rw [if_neg h1, if_neg h2, if_neg h3, if_neg h4, if_pos h5]
    refine ⟨_, rfl, ?_⟩
    have e : Mir.ansI way ex ey = ex.1 - ey.1 := by
      unfold Mir.ansI
      rw [if_neg h1, if_neg h2, if_neg h3, if_neg h4, if_neg h5]
    rw [e] at hQ
    exact hQ
/-! ### _law_ask -/
def N__law_ask : List Str := ["_law_asked", "_law_way", "_law_one", "_law_other"]
theorem sc__law_ask : FnScope ["_law_asked", "_law_way", "_law_one", "_law_other"] ["_law_asked", "_law_way", "_law_one", "_law_other"] (defScope st__law_ask) := ⟨rfl, rfl, rfl, by decide +kernel, rfl, by decide +kernel, by decide +kernel⟩
def spAskK : Sp := fun vs H Q _ => ∃ (q : Addr) (way : Int) (x y : V) (ex ey : Int × Int) (ps : List V), vs = [.ref q, .int way, x, y] ∧ H q = some (.lst ps) ∧ ps.length < 1000000 ∧ Pr H x ex ∧ Pr H y ey ∧ Sn ex.1 ∧ Sn ey.1 ∧
  ∀ t, H t = none → Q (.int (Mir.ansI way ex ey)) (upd (upd H t (.tup [x, y])) q (.lst (ps ++ [.ref t])))
theorem ok_ask (d__law_ask : Df K mg "_law_ask" st__law_ask ["_law_asked", "_law_way", "_law_one", "_law_other"]) (d__law_answer : Df K mg "_law_answer" st__law_answer ["_law_way", "_law_one", "_law_other"]) (mInt : mg "int" = none) (mAbs : mg "abs" = none) : FnOk P w K mg base CX0 2 d__law_ask.f d__law_ask.fd ["_law_asked", "_law_way", "_law_one", "_law_other"] spAskK := by
  have G__law_answer : FnOk P w K mg base CX0 1 d__law_answer.f d__law_answer.fd ["_law_way", "_law_one", "_law_other"] spAnswer := ok_answer d__law_answer mInt mAbs
  refine d__law_ask.F.ok sc__law_ask (fun vs H Q E h => ?_) (fun cdv A outer s H vs Q E hr h => ?_)
  · obtain ⟨q, way, x, y, ex, ey, ps, rfl, _⟩ := h
    rfl
  · obtain ⟨q, way, x, y, ex, ey, ps, rfl, hq, hl, hx, hy, s1, s2, hQ⟩ := h
    have nd := sc__law_ask.nd
    refine ⟨_, (pss_cons (ps_expr (pe_bm PySem.F.plainAttrs_list PySem.F.slot_list_append PySem.F.type_list_append mt_append (pv 0) (pa_cons (pe_tup (pa_cons (pv 2) (pa_cons (pv 3) pa_nil))) pa_nil)))
  (pss_one (ps_ret (pe_cd (d := d__law_answer) G__law_answer (hr.mono (by omega)) (pa_cons (pv 1) (pa_cons (pv 2) (pa_cons (pv 3) pa_nil))))))), ?_⟩
    refine ⟨_, rfl, .inl ⟨rfl, _, SqL.of hq⟩, _, rfl, _, rfl, by show 2 ≤ sizeLine; decide, fun t ht => ?_⟩
    have hqt : q ≠ t := ne_of_none hq ht
    refine ⟨q, ps, _, rfl, rfl, (upd_ne hqt).trans hq, Nat.lt_of_lt_of_le hl (by decide), ?_⟩
    have k1 : TK H (upd (upd H t (.tup [x, y])) q (.lst (ps ++ [.ref t]))) := (TK.new ht).trans (TK.wr ((upd_ne hqt).trans hq) nf_lst)
    exact ⟨_, rfl, _, rfl, _, rfl, way, x, y, ex, ey, rfl, hx.tk k1, hy.tk k1, s1, s2, hQ t ht⟩
/-! ### _law_log -/
def N__law_log : List Str := ["_law_many", "_law_found"]
theorem sc__law_log : FnScope ["_law_many", "_law_found"] ["_law_many"] (defScope st__law_log) := ⟨rfl, rfl, rfl, by decide +kernel, rfl, by decide +kernel, by decide +kernel⟩
def spLog : Sp := fun vs H Q _ => ∃ (n : Nat), vs = [.int (n : Int)] ∧ n ≤ 1000000 ∧ Q (.int ((Mir.clog n : Nat) : Int)) H
theorem ok_log (d__law_log : Df K mg "_law_log" st__law_log ["_law_many"]) : FnOk P w K mg base CX0 1 d__law_log.f d__law_log.fd ["_law_many"] spLog := by
  refine d__law_log.F.ok sc__law_log (fun vs H Q E h => ?_) (fun cdv A outer s H vs Q E hr h => ?_)
  · obtain ⟨n, rfl, _⟩ := h
    rfl
  · obtain ⟨n, rfl, hn, hQ⟩ := h
    have nd := sc__law_log.nd
    refine ⟨_, (pss_cons (ps_set (i := 1) nd rfl (Or.inl rfl) pe_int)
  (pss_cons (ps_while PassesOwn.never (pt_cmpR op_lt (pe_op op_shl pe_int (pv 1)) (pv 0) (nomark _))
    (pss_one (ps_set (i := 1) nd rfl (Or.inl rfl) (pe_op op_addE (pv 1) pe_int))))
  (pss_one (ps_ret (pv 1))))), ?_⟩
    have hc := Mir.clog_le_self n
    refine ⟨fun m σ H' => ∃ i : Nat, σ = [some (.int (n : Int)), some (.int (i : Int))] ∧ H' = H ∧ i ≤ Mir.clog n ∧ m = Mir.clog n - i, ⟨_, 0, rfl, rfl, Nat.zero_le _, rfl⟩, ?_⟩
    rintro m σ H' ⟨i, rfl, rfl, hi, rfl⟩
    refine ⟨_, rfl, _, _, rfl, rfl, ⟨by omega, by omega, by decide⟩, _, rfl, _, _, rfl, rfl, _, rfl, ?_⟩
    have e : ((1 : Int) * 2 ^ (i : Int).toNat < (n : Int)) ↔ i < Mir.clog n := by
      rw [← Mir.clog_lt]
      rw [Int.toNat_natCast, Int.one_mul]
      norm_cast
    refine iteD (fun h => ?_) (fun h => ?_)
    · have hlt := e.mp h
      refine ⟨_, fun _ _ h => h, ?_⟩
      exact ⟨_, rfl, _, _, ((i + 1 : Nat) : Int), rfl, rfl, rfl, _, by omega, i + 1, rfl, rfl, by omega, rfl⟩
    · have hge : i = Mir.clog n := by
        have := fun z => h (e.mpr z)
        omega
      rw [← hge] at hQ
      exact ⟨_, rfl, hQ⟩
end
end Ord

namespace Ord
open PySem PySem.Spec PyProof.Rows L2 LamX
theorem getE_map {α β : Type} {g : α → β} {xs : List α} {i : Nat} {x : α} (h : xs[i]? = some x) : (xs.map g)[i]? = some (g x) := by rw [List.getElem?_map, h]; rfl
section
variable {P : Program} {w : World} {K : PySem.W.Frag} {mg : Str → Option Value} {base : Heap}
/-! ### _law_row -/
def N__law_row : List Str := ["_law_script", "_law_start", "_law_many", "_law_spread", "_law_k"]
theorem sc__law_row : FnScope ["_law_script", "_law_start", "_law_many", "_law_spread", "_law_k"] ["_law_script", "_law_start", "_law_many", "_law_spread"] (defScope st__law_row) := ⟨rfl, rfl, rfl, by decide +kernel, rfl, by decide +kernel, by decide +kernel⟩
def spRowK (K : PySem.W.Frag) : Sp := fun vs H Q _ => ∃ (a : Addr) (ns : List Int) (st n : Nat) (sp : Int), vs = [.ref a, .int (st : Int), .int (n : Int), .int sp] ∧ SqL K H a (ns.map V.int) ∧ ns.length ≤ 1000 ∧ n ≤ 100 ∧ 0 < sp ∧ sp ≤ 1000000 ∧
  ∀ (H' : Hp) (p : Addr) (xs : List V) (c : V → Int × Int), Same H H' → H p = none → H' p = some (.lst xs) → xs.length = n → Els c xs H' → (∀ (i : Nat) (x : V), xs[i]? = some x → (c x).2 = (i : Int) ∧ 0 ≤ (c x).1 ∧ (c x).1 < sp) → Q (.ref p) H'
theorem ok_row (d__law_row : Df K mg "_law_row" st__law_row ["_law_script", "_law_start", "_law_many", "_law_spread"]) (d__law_cell : Df K mg "_law_cell" st__law_cell ["_law_script", "_law_k"]) (d__law_drawn : Df K mg "_law_drawn" st__law_drawn ["_law_cell_here", "_law_k"]) (mLen : mg "len" = none) (mRange : mg "range" = none) : FnOk P w K mg base CX0 2 d__law_row.f d__law_row.fd ["_law_script", "_law_start", "_law_many", "_law_spread"] (spRowK K) := by
  have G__law_cell : FnOk P w K mg base CX0 1 d__law_cell.f d__law_cell.fd ["_law_script", "_law_k"] (spCellK K) := ok_cell d__law_cell mLen
  have G__law_drawn : FnOk P w K mg base CX0 1 d__law_drawn.f d__law_drawn.fd ["_law_cell_here", "_law_k"] spDrawn := ok_drawn d__law_drawn
  refine d__law_row.F.ok sc__law_row (fun vs H Q E h => ?_) (fun cdv A outer s H vs Q E hr h => ?_)
  · obtain ⟨a, ns, st, n, sp, rfl, _⟩ := h
    rfl
  · obtain ⟨a, ns, st, n, sp, rfl, hS, hz, hn, sp0, sp1, hQ⟩ := h
    have nd := sc__law_row.nd
    refine ⟨_, (pss_one (ps_ret (pe_lc (own := [("_law_k", 4)]) (g := gName 4) rfl nd (pi_range1 (by rfl) mRange (pa_cons (pv 2) pa_nil)) (blkOk_by (own := [("_law_k", 4)]) (N := N__law_row) (sc := defScope st__law_row) (by decide +kernel)) (fun _ _ _ _ _ => pg_name (i := 4) nd rfl (Or.inl rfl)) (fun _ _ _ _ _ => pts_nil) (fun _ _ _ _ _ => (pe_tup (pa_cons (pe_op op_modE (pe_cd (d := d__law_drawn) G__law_drawn (hr.mono (by omega)) (pa_cons (pe_cd (d := d__law_cell) G__law_cell (hr.mono (by omega)) (pa_cons (pv 0) (pa_cons (pe_op op_addE (pv 1) (pv 4)) pa_nil))) (pa_cons (pv 4) pa_nil))) (pv 3)) (pa_cons (pv 4) pa_nil))))))), ?_⟩
    refine ⟨_, rfl, (n : Int), rfl, by omega, by omega, fun D hD => ?_⟩
    refine lc_range (lo := 0) (n := (n : Int).toNat) (fun i H1 => ∃ xs, Same H H1 ∧ H1 D = some (.lst xs) ∧ xs.length = i ∧ ∀ (j : Nat) (x : V), xs[j]? = some x → ∃ v, Pr H1 x (v, (j : Int)) ∧ 0 ≤ v ∧ v < sp) ⟨[], fun b o e => by rw [upd_ne (ne_of_none e hD)]; exact e, upd_same, rfl, fun j x e => by simp at e⟩ ?_ ?_
    · rintro i H1 hi ⟨xs, s1, h1, hl, hx⟩
      rw [show ((0 : Int) + (i : Nat)) = ((i : Nat) : Int) from Int.zero_add _]
      refine ⟨rfl, ?_⟩
      refine ⟨_, rfl, _, rfl, _, rfl, _, _, ((st + i : Nat) : Int), rfl, rfl, by show ((st + i : Nat) : Int) = (st : Int) + (i : Int); omega, a, ns, st + i, rfl, s1.seq hS, hz, fun H2 s2 => ?_⟩
      refine ⟨_, rfl, _, i, rfl, ?_⟩
      have hd := Mir.drawn_nn (Mir.cellI ns (st + i)) i
      have hm0 := Int.emod_nonneg (Mir.drawn (Mir.cellI ns (st + i)) i) (show sp ≠ 0 by omega)
      have hm1 := Int.emod_lt_of_pos (Mir.drawn (Mir.cellI ns (st + i)) i) sp0
      refine ⟨_, rfl, _, _, Mir.drawn (Mir.cellI ns (st + i)) i % sp, rfl, rfl, sp0, rfl, _, rfl, by show 2 ≤ sizeLine; decide, fun t ht => ?_⟩
      have h2D : H2 D = some (.lst xs) := s2 _ _ h1
      have hDt : D ≠ t := ne_of_none h2D ht
      refine ⟨xs, (upd_ne hDt).trans h2D, small1000 (by omega), xs ++ [.ref t], fun b o e => ?_, upd_same, by rw [List.length_append, hl]; rfl, fun j x e => ?_⟩
      · rw [upd_ne (ne_of_none e hD), upd_ne (ne_of_none (s2 _ _ (s1 _ _ e)) ht)]
        exact s2 _ _ (s1 _ _ e)
      · have kT : TK H2 (upd (upd H2 t (.tup [.int (Mir.drawn (Mir.cellI ns (st + i)) i % sp), .int (i : Int)])) D (.lst (xs ++ [.ref t]))) := (TK.new ht).trans (TK.wr ((upd_ne hDt).trans h2D) nf_lst)
        by_cases hj : j < xs.length
        · rw [List.getElem?_append_left hj] at e
          obtain ⟨v, hp, hv⟩ := hx j x e
          exact ⟨v, (hp.tk (Same.tk s2)).tk kT, hv⟩
        · rw [List.getElem?_append_right (by omega)] at e
          have ej : j = i := by
            have := (List.getElem?_eq_some_iff.mp e).1
            simp only [List.length_singleton] at this
            omega
          subst ej
          rw [hl, Nat.sub_self] at e
          cases e
          exact ⟨_, ⟨t, rfl, (upd_ne hDt.symm).trans upd_same⟩, hm0, hm1⟩
    · rintro H1 ⟨xs, s1, h1, hl, hx⟩
      have key : ∀ (i : Nat) (x : V), xs[i]? = some x → Pr H1 x (cnt H1 x) ∧ (cnt H1 x).2 = (i : Int) ∧ 0 ≤ (cnt H1 x).1 ∧ (cnt H1 x).1 < sp := fun i x e => by
        obtain ⟨v, hp, hv⟩ := hx i x e
        rw [hp.cnt]
        exact ⟨hp, rfl, hv⟩
      refine hQ H1 D xs (cnt H1) s1 hD h1 (by omega) (fun x hx' => ?_) fun i x e => (key i x e).2
      obtain ⟨i, e⟩ := List.mem_iff_getElem?.mp hx'
      have k := key i x e
      have hi := (List.getElem?_eq_some_iff.mp e).1
      exact ⟨k.1, Sn.of (by omega) (by omega), Sn.of (by omega) (by omega)⟩
/-! ### _law_size -/
def N__law_size : List Str := ["_law_script", "_law_most", "_law_more"]
theorem sc__law_size : FnScope ["_law_script", "_law_most", "_law_more"] ["_law_script", "_law_most"] (defScope st__law_size) := ⟨rfl, rfl, rfl, by decide +kernel, rfl, by decide +kernel, by decide +kernel⟩
def spSizeK (K : PySem.W.Frag) : Sp := fun vs H Q _ => ∃ (a : Addr) (ns : List Int) (most : Nat), vs = [.ref a, .int (most : Int)] ∧ SqL K H a (ns.map V.int) ∧ ns.length ≤ 1000 ∧ 5 ≤ most ∧ most ≤ 1000 ∧
  ∀ (H' : Hp) (n : Nat), Same H H' → n ≤ most → Q (.int (n : Int)) H'
theorem ok_size (d__law_size : Df K mg "_law_size" st__law_size ["_law_script", "_law_most"]) (d__law_cell : Df K mg "_law_cell" st__law_cell ["_law_script", "_law_k"]) (d__law_drawn : Df K mg "_law_drawn" st__law_drawn ["_law_cell_here", "_law_k"]) (mLen : mg "len" = none) (mMin : mg "min" = none) : FnOk P w K mg base CX0 2 d__law_size.f d__law_size.fd ["_law_script", "_law_most"] (spSizeK K) := by
  have G__law_cell : FnOk P w K mg base CX0 1 d__law_cell.f d__law_cell.fd ["_law_script", "_law_k"] (spCellK K) := ok_cell d__law_cell mLen
  have G__law_drawn : FnOk P w K mg base CX0 1 d__law_drawn.f d__law_drawn.fd ["_law_cell_here", "_law_k"] spDrawn := ok_drawn d__law_drawn
  refine d__law_size.F.ok sc__law_size (fun vs H Q E h => ?_) (fun cdv A outer s H vs Q E hr h => ?_)
  · obtain ⟨a, ns, most, rfl, _⟩ := h
    rfl
  · obtain ⟨a, ns, most, rfl, hS, hz, hm, hm1, hQ⟩ := h
    have nd := sc__law_size.nd
    refine ⟨_, (pss_cons (ps_set (i := 2) nd rfl (Or.inl rfl) (pe_cd (d := d__law_drawn) G__law_drawn (hr.mono (by omega)) (pa_cons (pe_cd (d := d__law_cell) G__law_cell (hr.mono (by omega)) (pa_cons (pv 0) (pa_cons pe_int pa_nil))) (pa_cons pe_int pa_nil))))
  (pss_one (ps_ret (pe_ix ix_list (pe_lst (pa_cons (pe_op op_modE (pe_op op_fdivE (pv 2) pe_int) (pe_op op_addE (pv 1) pe_int)) (pa_cons (pe_callB (call_min2 rfl) (by rfl) mMin (by decide +kernel) (pa_cons (pv 1) (pa_cons (pe_len mLen (pv 0)) pa_nil))) (pa_cons (pe_op op_modE (pe_op op_fdivE (pv 2) pe_int) pe_int) (pa_cons (pe_op op_subE (pv 1) (pe_op op_modE (pe_op op_fdivE (pv 2) pe_int) pe_int)) pa_nil))))) (pe_op op_modE (pv 2) pe_int) (fun _ _ => rfl))))), ?_⟩
    refine ⟨_, rfl, a, ns, 0, rfl, hS, hz, fun H1 s1 => ⟨_, 9000, rfl, ?_⟩⟩
    obtain ⟨m, em⟩ : ∃ m, m = Mir.drawn (Mir.cellI ns 0) 9000 := ⟨_, rfl⟩
    have hd := Mir.drawn_nn (Mir.cellI ns 0) 9000
    rw [← em] at hd ⊢
    have hQ' : ∀ (z : Int) (H' : Hp), 0 ≤ z → z ≤ most → Same H H' → Q (.int z) H' := fun z H' h0 h1 s => by
      have h := hQ H' z.toNat s (by omega)
      rw [Int.toNat_of_nonneg h0] at h
      exact h
    have hlen : ((ns.map V.int).length) = ns.length := List.length_map _
    refine ⟨_, rfl, _, _, _, rfl, rfl, ⟨by decide, by decide⟩, rfl, _, rfl, _, _, _, rfl, rfl, rfl, _, _, _, rfl, rfl, (by show (0 : Int) < (most : Int) + 1; omega), rfl, ?_⟩
    refine ⟨_, rfl, _, rfl, a, _, rfl, .inl (s1.seq hS), _, _, rfl, ?_⟩
    refine ⟨_, rfl, _, _, _, rfl, rfl, ⟨by decide, by decide⟩, rfl, _, _, _, rfl, rfl, (by show (0 : Int) < 6; decide), rfl, ?_⟩
    refine ⟨_, rfl, _, rfl, _, _, _, rfl, rfl, ⟨by decide, by decide⟩, rfl, _, _, _, rfl, rfl, (by show (0 : Int) < 3; decide), rfl, _, _, _, rfl, rfl, rfl, ?_⟩
    refine ⟨by show 4 ≤ sizeLine; decide, fun p np => ?_⟩
    have s2 : ∀ o, Same H (upd H1 p o) := fun o b u e => by rw [upd_ne (ne_of_none (s1 _ _ e) np)]; exact s1 _ _ e
    obtain ⟨r, hr4, er⟩ : ∃ r : Nat, r < 4 ∧ m % 4 = (r : Int) := ⟨(m % 4).toNat, by omega, by omega⟩
    refine ⟨_, rfl, _, _, (r : Int), rfl, rfl, (by show (0 : Int) < 4; decide), er.symm, ?_⟩
    have hh : r = 0 ∨ r = 1 ∨ r = 2 ∨ r = 3 := by omega
    rcases hh with h | h | h | h <;> subst h
    · refine ⟨p, _, _, _, rfl, rfl, SqL.of upd_same, rfl, hQ' _ _ ?_ ?_ (s2 _)⟩
      · exact Int.emod_nonneg _ (show (most : Int) + 1 ≠ 0 by omega)
      · have := Int.emod_lt_of_pos (m / 8) (show (0 : Int) < (most : Int) + 1 by omega)
        show m / 8 % ((most : Int) + 1) ≤ most
        omega
    · refine ⟨p, _, _, _, rfl, rfl, SqL.of upd_same, rfl, hQ' _ _ ?_ ?_ (s2 _)⟩
      · show 0 ≤ if (((ns.map V.int).length : Nat) : Int) < (most : Int) then (((ns.map V.int).length : Nat) : Int) else (most : Int)
        split <;> omega
      · show (if (((ns.map V.int).length : Nat) : Int) < (most : Int) then (((ns.map V.int).length : Nat) : Int) else (most : Int)) ≤ most
        split <;> omega
    · refine ⟨p, _, _, _, rfl, rfl, SqL.of upd_same, rfl, hQ' _ _ ?_ ?_ (s2 _)⟩
      · show 0 ≤ m / 8 % 6
        omega
      · show m / 8 % 6 ≤ (most : Int)
        omega
    · refine ⟨p, _, _, _, rfl, rfl, SqL.of upd_same, rfl, hQ' _ _ ?_ ?_ (s2 _)⟩
      · show 0 ≤ (most : Int) - m / 8 % 3
        omega
      · show (most : Int) - m / 8 % 3 ≤ (most : Int)
        omega
end
end Ord

namespace Ord
open PySem PySem.Spec PyProof.Rows L2 LamX
section
variable {P : Program} {w : World} {K : PySem.W.Frag} {mg : Str → Option Value} {base : Heap}
def N__law_sorted : List Str := ["_law_row_here", "_law_way", "_law_made", "_law_element", "_law_place"]
theorem sc__law_sorted : FnScope ["_law_row_here", "_law_way", "_law_made", "_law_element", "_law_place"] ["_law_row_here", "_law_way"] (defScope st__law_sorted) := ⟨rfl, rfl, rfl, by decide +kernel, rfl, by decide +kernel, by decide +kernel⟩
abbrev kyc (way : Int) (c : V → Int × Int) : V → Int := fun x => Mir.keyI way (c x)
def spSorted (K : PySem.W.Frag) : Sp := fun vs H Q _ => ∃ (a : Addr) (xs : List V) (way : Int) (c : V → Int × Int), vs = [.ref a, .int way] ∧ SqL K H a xs ∧ Els c xs H ∧ xs.length ≤ 200 ∧
  ∀ (H' : Hp) (p : Addr), Same H H' → H p = none → H' p = some (.lst (Mir.isort (kyc way c) xs)) → Q (.ref p) H'
theorem ok_sorted (d__law_sorted : Df K mg "_law_sorted" st__law_sorted ["_law_row_here", "_law_way"]) (d__law_answer : Df K mg "_law_answer" st__law_answer ["_law_way", "_law_one", "_law_other"]) (mLen : mg "len" = none) (mInt : mg "int" = none) (mAbs : mg "abs" = none) : FnOk P w K mg base CX0 2 d__law_sorted.f d__law_sorted.fd ["_law_row_here", "_law_way"] (spSorted K) := by
  have G__law_answer : FnOk P w K mg base CX0 1 d__law_answer.f d__law_answer.fd ["_law_way", "_law_one", "_law_other"] spAnswer := ok_answer d__law_answer mInt mAbs
  refine d__law_sorted.F.ok sc__law_sorted (fun vs H Q E h => ?_) (fun cdv A outer s H vs Q E hr h => ?_)
  · obtain ⟨a, xs, way, c, rfl, _⟩ := h
    rfl
  · obtain ⟨a, xs, way, c, rfl, hS, hE, hz, hQ⟩ := h
    have nd := sc__law_sorted.nd
    obtain ⟨key, ek⟩ : ∃ key, key = kyc way c := ⟨_, rfl⟩
    rw [← ek] at hQ
    refine ⟨_, (pss_cons (ps_set (i := 2) nd rfl (Or.inl rfl) (pe_lst pa_nil))
  (pss_cons (ps_for PassesOwn.never rfl (pi_list (pv 0)) (pg_name (i := 3) nd rfl (Or.inl rfl))
    (pss_cons (ps_set (i := 4) nd rfl (Or.inl rfl) (pe_len mLen (pv 2)))
  (pss_cons (ps_while PassesOwn.never (PW.pt (pw_and (pt_cmpR op_gt (pv 4) pe_int (nomark _)) (pw_and1 (pt_cmpR op_gt (pe_cd (d := d__law_answer) G__law_answer (hr.mono (by omega)) (pa_cons (pv 1) (pa_cons (pe_ix ix_list (pv 2) (pe_op op_subE (pv 4) pe_int) (fun _ _ => rfl)) (pa_cons (pv 3) pa_nil)))) pe_int (nomark _)))))
    (pss_one (ps_set (i := 4) nd rfl (Or.inl rfl) (pe_op op_subE (pv 4) pe_int))))
  (pss_one (ps_set (i := 2) nd rfl (Or.inl rfl) (pe_op op_cat (pe_op op_cat (pe_slice sl_list (pv 2) po_none (po_some (pv 4))) (pe_lst (pa_cons (pv 3) pa_nil))) (pe_slice sl_list (pv 2) (po_some (pv 4)) po_none)))))))
  (pss_one (ps_ret (pv 2))))), ?_⟩
    refine ⟨Nat.zero_le _, fun m0 n0 => ?_⟩
    refine ⟨_, rfl, a, rfl, ⟨_, (Same.seq (fun b o e => by rw [upd_ne (ne_of_none e n0)]; exact e) hS)⟩, for_list (K := K) (a := a) (xs := xs) (fun i σ H' => ∃ (m : Addr) (v3 v4 : Option V), σ = [some (.ref a), some (.int way), some (.ref m), v3, v4] ∧ Same H H' ∧ H m = none ∧ H' m = some (.lst (Mir.isort key (xs.take i))))
      ⟨m0, none, none, rfl, fun b o e => by rw [upd_ne (ne_of_none e n0)]; exact e, n0, by rw [upd_same]; rfl⟩ (fun i σ H' _ ⟨_, _, _, _, s1, _⟩ => s1.seq hS) ?_ ?_⟩
    · rintro i x σ H1 hi ⟨m, v3, v4, rfl, s1, nm, h1⟩
      have hxE : El c x H := hE x (List.mem_of_getElem? hi)
      have hil : i < xs.length := (List.getElem?_eq_some_iff.mp hi).1
      obtain ⟨made, em⟩ : ∃ made, made = Mir.isort key (xs.take i) := ⟨_, rfl⟩
      rw [← em] at h1
      have lm : made.length = i := by rw [em, Mir.isort_len, List.length_take]; omega
      have emd : Mir.isort key (xs.take (i + 1)) = Mir.ins1 key made x := by
        have e : xs.take (i + 1) = xs.take i ++ [x] := by rw [List.take_add_one, hi]; rfl
        rw [e, Mir.isort_snoc, ← em]
      have madeE : ∀ z ∈ made, El c z H := fun z hz' => hE z (List.mem_of_mem_take (Mir.isort_mem (by rw [← em]; exact hz')))
      refine ⟨_, rfl, m, made, rfl, .inl (SqL.of h1), ?_⟩
      refine ⟨fun mu σ H' => ∃ j : Nat, σ = [some (.ref a), some (.int way), some (.ref m), some x, some (.int (j : Int))] ∧ H' = H1 ∧ j ≤ made.length ∧ mu = j ∧ Mir.plc key made x made.length = Mir.plc key made x j, ⟨_, made.length, rfl, rfl, Nat.le_refl _, rfl, rfl⟩, ?_⟩
      rintro mu σ H' ⟨j, rfl, rfl, hj, rfl, hp⟩
      have fin : Mir.plc key made x mu = mu → (tAsg (tOp rCat (tOp rCat (tSl (rSlL K) (tVar 2) tNoPart (tPart (tVar 4))) (tLst (tCons (tVar 3) tNil))) (tSl (rSlL K) (tVar 2) (tPart (tVar 4)) tNoPart)) (gName 2)) { nx := fun σ H' => ∃ (m : Addr) (v3 v4 : Option V), σ = [some (.ref a), some (.int way), some (.ref m), v3, v4] ∧ Same H H' ∧ H m = none ∧ H' m = some (.lst (Mir.isort key (xs.take (i + 1)))), rt := Q } [some (.ref a), some (.int way), some (.ref m), some x, some (.int (mu : Int))] H' := by
        intro e
        have cx : cutV made none (some (mu : Int)) = made.take mu := cut_to1 made mu
        have cy : cutV made (some (mu : Int)) none = made.drop mu := cut_from1 made mu
        have lx : (made.take mu).length = mu := by rw [List.length_take]; omega
        have ly : (made.drop mu).length = made.length - mu := List.length_drop
        refine ⟨_, rfl, _, rfl, _, rfl, m, made, rfl, SqL.of h1, fun p1 n1 => ?_⟩
        rw [cx]
        have f1 : ∀ {b o}, H' b = some o → upd H' p1 (.lst (made.take mu)) b = some o := fun {b o} e => (upd_ne (ne_of_none e n1)).trans e
        refine ⟨_, rfl, by show 1 ≤ sizeLine; decide, fun p2 n2 => ?_⟩
        have f2 : ∀ {b o}, H' b = some o → upd (upd H' p1 (.lst (made.take mu))) p2 (.lst [x]) b = some o := fun {b o} e => (upd_ne (ne_of_none (f1 e) n2)).trans (f1 e)
        refine ⟨p1, p2, made.take mu, [x], rfl, rfl, (upd_ne (ne_of_none upd_same n2)).trans upd_same, upd_same, z1000 (by rw [lx]; show mu + 1 ≤ 1000; omega), fun p3 n3 => ?_⟩
        refine ⟨_, rfl, _, rfl, _, rfl, m, made, rfl, SqL.of ((upd_ne (ne_of_none (f2 h1) n3)).trans (f2 h1)), fun p4 n4 => ?_⟩
        rw [cy]
        refine ⟨p3, p4, _, _, rfl, rfl, (upd_ne (ne_of_none upd_same n4)).trans upd_same, upd_same, z1000 (by rw [List.length_append, lx, ly]; show mu + 1 + (made.length - mu) ≤ 1000; omega), fun p5 n5 => ?_⟩
        refine ⟨p5, _, _, rfl, ((((s1.trans (Same.new n1)).trans (Same.new n2)).trans (Same.new n3)).trans (Same.new n4)).trans (Same.new n5), ?_, ?_⟩
        · exact s1.free (upd_none (upd_none (upd_none (upd_none n5))))
        · rw [upd_same, emd]
          unfold Mir.ins1
          rw [hp, e]
      refine ⟨_, rfl, _, _, rfl, rfl, _, rfl, ?_⟩
      refine iteD (fun hpos => ?_) (fun hpos => iteF (fin (by have e0 : mu = 0 := by omega
                                                              rw [e0, Mir.plc_zero])))
      obtain ⟨j, ej⟩ : ∃ j, mu = j + 1 := ⟨mu - 1, by omega⟩
      obtain ⟨z, hz1⟩ : ∃ z, made[j]? = some z := ⟨_, List.getElem?_eq_getElem (by omega)⟩
      have hzE := madeE z (List.mem_of_getElem? hz1)
      refine ⟨_, rfl, _, rfl, _, rfl, _, _, (j : Int), rfl, rfl, by show (j : Int) = (mu : Int) - 1; omega, m, made, _, z, rfl, rfl, SqL.of h1, atI_nat hz1, _, rfl, way, z, x, c z, c x, rfl, hzE.1.tk (Same.tk s1), hxE.1.tk (Same.tk s1), hzE.2.1, hxE.2.1, ?_⟩
      refine ⟨_, _, rfl, rfl, _, rfl, ?_⟩
      have ea : (0 < Mir.ansI way (c z) (c x)) ↔ key x < key z := by rw [ek]; exact (Mir.ansI_pos way (c z) (c x)).1
      refine iteD (fun h => ?_) (fun h => ?_)
      · refine ⟨_, fun _ _ h => h, ?_⟩
        refine ⟨_, rfl, _, _, (j : Int), rfl, rfl, by show (j : Int) = (mu : Int) - 1; omega, ?_⟩
        exact ⟨_, by omega, j, rfl, rfl, by omega, rfl, by rw [hp, ej, Mir.plc_lt hz1 (ea.mp h)]⟩
      · exact fin (by rw [ej]; exact Mir.plc_ge hz1 fun q => h (ea.mpr q))
    · rintro σ H1 ⟨m, v3, v4, rfl, s1, nm, h1⟩
      rw [List.take_length] at h1
      exact ⟨_, rfl, hQ H1 m s1 nm h1⟩
end
end Ord

/-! What the defs of yourorder.rows compute, over any answers. -/
namespace Mir
section
variable {α : Type}
abbrev Ans (α : Type) := List (α × α) → α → α → Int
def mrg (ans : Ans α) : List α → List α → List (α × α) → List α × List (α × α)
  | [], ys, l => (ys, l)
  | x :: xs, [], l => (x :: xs, l)
  | x :: xs, y :: ys, l =>
    if ans l x y ≤ 0 then (x :: (mrg ans xs (y :: ys) (l ++ [(x, y)])).1, (mrg ans xs (y :: ys) (l ++ [(x, y)])).2)
    else (y :: (mrg ans (x :: xs) ys (l ++ [(x, y)])).1, (mrg ans (x :: xs) ys (l ++ [(x, y)])).2)
termination_by xs ys => xs.length + ys.length
theorem mrg_nil (ans : Ans α) (ys : List α) (l : List (α × α)) : mrg ans [] ys l = (ys, l) := by unfold mrg; rfl
theorem mrg_nil2 (ans : Ans α) (xs : List α) (l : List (α × α)) : mrg ans xs [] l = (xs, l) := by
  cases xs with
  | nil => unfold mrg; rfl
  | cons x xs => unfold mrg; rfl
theorem mrg_cons (ans : Ans α) (x y : α) (xs ys : List α) (l : List (α × α)) : mrg ans (x :: xs) (y :: ys) l =
    if ans l x y ≤ 0 then (x :: (mrg ans xs (y :: ys) (l ++ [(x, y)])).1, (mrg ans xs (y :: ys) (l ++ [(x, y)])).2)
    else (y :: (mrg ans (x :: xs) ys (l ++ [(x, y)])).1, (mrg ans (x :: xs) ys (l ++ [(x, y)])).2) := by
  rw [mrg]
theorem drop_cons {xs : List α} {i : Nat} {x : α} (e : xs[i]? = some x) : xs.drop i = x :: xs.drop (i + 1) := by
  obtain ⟨h, e⟩ := List.getElem?_eq_some_iff.mp e
  rw [← e]
  exact List.drop_eq_getElem_cons h
/-- all but the last two questions' lengths: how long what is told is -/
theorem mrg_len (ans : Ans α) : ∀ (xs ys : List α) (l : List (α × α)), (mrg ans xs ys l).1.length = xs.length + ys.length
  | [], ys, l => by rw [mrg_nil]; simp
  | x :: xs, [], l => by rw [mrg_nil2]; simp
  | x :: xs, y :: ys, l => by
    have h1 := mrg_len ans xs (y :: ys) (l ++ [(x, y)])
    have h2 := mrg_len ans (x :: xs) ys (l ++ [(x, y)])
    rw [mrg_cons]
    split
    · simp only [List.length_cons] at h1 ⊢
      omega
    · simp only [List.length_cons] at h2 ⊢
      omega
termination_by xs ys => xs.length + ys.length
def stab (ans : Ans α) (xs : List α) (l : List (α × α)) : List α × List (α × α) :=
  if h : xs.length < 2 then (xs, l)
  else
    let a := stab ans (xs.take ((xs.length + 1) / 2)) l
    let b := stab ans (xs.drop ((xs.length + 1) / 2)) a.2
    match a.1.getLast?, b.1.head? with
    | some x, some y => if ans b.2 x y ≤ 0 then (a.1 ++ b.1, b.2 ++ [(x, y)]) else mrg ans a.1 b.1 (b.2 ++ [(x, y)])
    | _, _ => (a.1 ++ b.1, b.2)
termination_by xs.length
decreasing_by
  · rw [List.length_take]; omega
  · rw [List.length_drop]; omega
theorem mrg_mem (ans : Ans α) : ∀ (xs ys : List α) (l : List (α × α)) (z : α), z ∈ (mrg ans xs ys l).1 → z ∈ xs ∨ z ∈ ys
  | [], ys, l, z, h => by rw [mrg_nil] at h; exact .inr h
  | x :: xs, [], l, z, h => by rw [mrg_nil2] at h; exact .inl h
  | x :: xs, y :: ys, l, z, h => by
    have h1 := mrg_mem ans xs (y :: ys) (l ++ [(x, y)]) z
    have h2 := mrg_mem ans (x :: xs) ys (l ++ [(x, y)]) z
    rw [mrg_cons] at h
    split at h
    · rcases List.mem_cons.mp h with e | e
      · exact .inl (List.mem_cons.mpr (.inl e))
      · rcases h1 e with q | q
        · exact .inl (List.mem_cons_of_mem _ q)
        · exact .inr q
    · rcases List.mem_cons.mp h with e | e
      · exact .inr (List.mem_cons.mpr (.inl e))
      · rcases h2 e with q | q
        · exact .inl q
        · exact .inr (List.mem_cons_of_mem _ q)
termination_by xs ys => xs.length + ys.length
theorem stab_small (ans : Ans α) {xs : List α} (l : List (α × α)) (h : xs.length < 2) : stab ans xs l = (xs, l) := by
  rw [stab, dif_pos h]
theorem stab_big (ans : Ans α) {xs : List α} (l : List (α × α)) (h : ¬ xs.length < 2) : stab ans xs l =
    match (stab ans (xs.take ((xs.length + 1) / 2)) l).1.getLast?, (stab ans (xs.drop ((xs.length + 1) / 2)) (stab ans (xs.take ((xs.length + 1) / 2)) l).2).1.head? with
    | some x, some y => if ans (stab ans (xs.drop ((xs.length + 1) / 2)) (stab ans (xs.take ((xs.length + 1) / 2)) l).2).2 x y ≤ 0 then ((stab ans (xs.take ((xs.length + 1) / 2)) l).1 ++ (stab ans (xs.drop ((xs.length + 1) / 2)) (stab ans (xs.take ((xs.length + 1) / 2)) l).2).1, (stab ans (xs.drop ((xs.length + 1) / 2)) (stab ans (xs.take ((xs.length + 1) / 2)) l).2).2 ++ [(x, y)])
      else mrg ans (stab ans (xs.take ((xs.length + 1) / 2)) l).1 (stab ans (xs.drop ((xs.length + 1) / 2)) (stab ans (xs.take ((xs.length + 1) / 2)) l).2).1 ((stab ans (xs.drop ((xs.length + 1) / 2)) (stab ans (xs.take ((xs.length + 1) / 2)) l).2).2 ++ [(x, y)])
    | _, _ => ((stab ans (xs.take ((xs.length + 1) / 2)) l).1 ++ (stab ans (xs.drop ((xs.length + 1) / 2)) (stab ans (xs.take ((xs.length + 1) / 2)) l).2).1, (stab ans (xs.drop ((xs.length + 1) / 2)) (stab ans (xs.take ((xs.length + 1) / 2)) l).2).2) := by
  rw [stab, dif_neg h]
/-- the step by what the halves give -/
theorem stab_step (ans : Ans α) {xs : List α} (l : List (α × α)) (h : ¬ xs.length < 2) {a b : List α × List (α × α)} (ea : stab ans (xs.take ((xs.length + 1) / 2)) l = a) (eb : stab ans (xs.drop ((xs.length + 1) / 2)) a.2 = b) {x y : α} (ex : a.1.getLast? = some x) (ey : b.1.head? = some y) :
    stab ans xs l = if ans b.2 x y ≤ 0 then (a.1 ++ b.1, b.2 ++ [(x, y)]) else mrg ans a.1 b.1 (b.2 ++ [(x, y)]) := by
  rw [stab_big ans l h, ea, eb, ex, ey]
theorem stab_len (ans : Ans α) (n : Nat) : ∀ (xs : List α) (l : List (α × α)), xs.length ≤ n → (stab ans xs l).1.length = xs.length := by
  induction n with
  | zero => intro xs l h; rw [stab_small ans l (by omega)]
  | succ n ih =>
    intro xs l h
    by_cases h2 : xs.length < 2
    · rw [stab_small ans l h2]
    · have t1 : (xs.take ((xs.length + 1) / 2)).length = (xs.length + 1) / 2 := by rw [List.length_take]; omega
      have t2 : (xs.drop ((xs.length + 1) / 2)).length = xs.length - (xs.length + 1) / 2 := List.length_drop
      have i1 := ih (xs.take ((xs.length + 1) / 2)) l (by omega)
      have i2 := ih (xs.drop ((xs.length + 1) / 2)) (stab ans (xs.take ((xs.length + 1) / 2)) l).2 (by omega)
      obtain ⟨x, ex⟩ : ∃ x, (stab ans (xs.take ((xs.length + 1) / 2)) l).1.getLast? = some x := by
        rw [List.getLast?_eq_getElem?]
        exact ⟨_, List.getElem?_eq_getElem (by omega)⟩
      obtain ⟨y, ey⟩ : ∃ y, (stab ans (xs.drop ((xs.length + 1) / 2)) (stab ans (xs.take ((xs.length + 1) / 2)) l).2).1.head? = some y := by
        rw [List.head?_eq_getElem?]
        exact ⟨_, List.getElem?_eq_getElem (by omega)⟩
      rw [stab_step ans l h2 rfl rfl ex ey]
      split
      · rw [List.length_append]; omega
      · rw [mrg_len]; omega
theorem stab_mem (ans : Ans α) (n : Nat) : ∀ (xs : List α) (l : List (α × α)) (z : α), xs.length ≤ n → z ∈ (stab ans xs l).1 → z ∈ xs := by
  induction n with
  | zero => intro xs l z h hz; rw [stab_small ans l (by omega)] at hz; exact hz
  | succ n ih =>
    intro xs l z h hz
    by_cases h2 : xs.length < 2
    · rw [stab_small ans l h2] at hz; exact hz
    · have t1 : (xs.take ((xs.length + 1) / 2)).length = (xs.length + 1) / 2 := by rw [List.length_take]; omega
      have t2 : (xs.drop ((xs.length + 1) / 2)).length = xs.length - (xs.length + 1) / 2 := List.length_drop
      have l1 := stab_len ans n (xs.take ((xs.length + 1) / 2)) l (by omega)
      have l2 := stab_len ans n (xs.drop ((xs.length + 1) / 2)) (stab ans (xs.take ((xs.length + 1) / 2)) l).2 (by omega)
      have i1 := ih (xs.take ((xs.length + 1) / 2)) l z (by omega)
      have i2 := ih (xs.drop ((xs.length + 1) / 2)) (stab ans (xs.take ((xs.length + 1) / 2)) l).2 z (by omega)
      have key : z ∈ (stab ans (xs.take ((xs.length + 1) / 2)) l).1 ∨ z ∈ (stab ans (xs.drop ((xs.length + 1) / 2)) (stab ans (xs.take ((xs.length + 1) / 2)) l).2).1 → z ∈ xs := fun q => q.elim (fun q => List.mem_of_mem_take (i1 q)) fun q => List.mem_of_mem_drop (i2 q)
      obtain ⟨x, ex⟩ : ∃ x, (stab ans (xs.take ((xs.length + 1) / 2)) l).1.getLast? = some x := by
        rw [List.getLast?_eq_getElem?]
        exact ⟨_, List.getElem?_eq_getElem (by omega)⟩
      obtain ⟨y, ey⟩ : ∃ y, (stab ans (xs.drop ((xs.length + 1) / 2)) (stab ans (xs.take ((xs.length + 1) / 2)) l).2).1.head? = some y := by
        rw [List.head?_eq_getElem?]
        exact ⟨_, List.getElem?_eq_getElem (by omega)⟩
      rw [stab_step ans l h2 rfl rfl ex ey] at hz
      split at hz
      · exact key (List.mem_append.mp hz)
      · exact key (mrg_mem ans _ _ _ z hz)
theorem mrg_cnt (ans : Ans α) : ∀ (xs ys : List α) (l : List (α × α)), l.length ≤ (mrg ans xs ys l).2.length ∧ (mrg ans xs ys l).2.length ≤ l.length + (xs.length + ys.length - 1) ∧ ((xs = [] ∨ ys = []) → (mrg ans xs ys l).2 = l)
  | [], ys, l => by rw [mrg_nil]; exact ⟨Nat.le_refl _, Nat.le_add_right _ _, fun _ => rfl⟩
  | x :: xs, [], l => by rw [mrg_nil2]; exact ⟨Nat.le_refl _, Nat.le_add_right _ _, fun _ => rfl⟩
  | x :: xs, y :: ys, l => by
    have h1 := mrg_cnt ans xs (y :: ys) (l ++ [(x, y)])
    have h2 := mrg_cnt ans (x :: xs) ys (l ++ [(x, y)])
    rw [mrg_cons]
    split
    · simp only [List.length_append, List.length_cons, List.length_nil] at h1 ⊢
      refine ⟨by omega, by omega, fun h => ?_⟩
      rcases h with h | h <;> cases h
    · simp only [List.length_append, List.length_cons, List.length_nil] at h2 ⊢
      refine ⟨by omega, by omega, fun h => ?_⟩
      rcases h with h | h <;> cases h
termination_by xs ys => xs.length + ys.length
theorem clog_half {n : Nat} (h : ¬ n < 2) : clog n = clog ((n + 1) / 2) + 1 := by
  rw [clog, if_neg (by omega)]
theorem stab_cnt (ans : Ans α) (n : Nat) : ∀ (xs : List α) (l : List (α × α)), xs.length ≤ n → l.length ≤ (stab ans xs l).2.length ∧ (stab ans xs l).2.length ≤ l.length + xs.length * clog xs.length := by
  induction n with
  | zero => intro xs l h; rw [stab_small ans l (by omega)]; exact ⟨Nat.le_refl _, Nat.le_add_right _ _⟩
  | succ n ih =>
    intro xs l h
    by_cases h2 : xs.length < 2
    · rw [stab_small ans l h2]; exact ⟨Nat.le_refl _, Nat.le_add_right _ _⟩
    · have t1 : (xs.take ((xs.length + 1) / 2)).length = (xs.length + 1) / 2 := by rw [List.length_take]; omega
      have t2 : (xs.drop ((xs.length + 1) / 2)).length = xs.length - (xs.length + 1) / 2 := List.length_drop
      have i1 := ih (xs.take ((xs.length + 1) / 2)) l (by omega)
      have i2 := ih (xs.drop ((xs.length + 1) / 2)) (stab ans (xs.take ((xs.length + 1) / 2)) l).2 (by omega)
      have l1 := stab_len ans n (xs.take ((xs.length + 1) / 2)) l (by omega)
      have l2 := stab_len ans n (xs.drop ((xs.length + 1) / 2)) (stab ans (xs.take ((xs.length + 1) / 2)) l).2 (by omega)
      rw [t1] at i1 l1
      rw [t2] at i2 l2
      obtain ⟨c, ec⟩ : ∃ c, c = clog ((xs.length + 1) / 2) := ⟨_, rfl⟩
      have m2 : clog (xs.length - (xs.length + 1) / 2) ≤ c := by rw [ec]; exact clog_mono (by omega)
      have m3 := Nat.mul_le_mul_left (xs.length - (xs.length + 1) / 2) m2
      have m4 : (xs.length + 1) / 2 * c + (xs.length - (xs.length + 1) / 2) * c = xs.length * c := by
        rw [← Nat.add_mul]
        congr 1
        omega
      have m5 : xs.length * (c + 1) = xs.length * c + xs.length := Nat.mul_succ _ _
      rw [clog_half h2, ← ec, m5]
      rw [← ec] at i1
      obtain ⟨x, ex⟩ : ∃ x, (stab ans (xs.take ((xs.length + 1) / 2)) l).1.getLast? = some x := by
        rw [List.getLast?_eq_getElem?]
        exact ⟨_, List.getElem?_eq_getElem (by omega)⟩
      obtain ⟨y, ey⟩ : ∃ y, (stab ans (xs.drop ((xs.length + 1) / 2)) (stab ans (xs.take ((xs.length + 1) / 2)) l).2).1.head? = some y := by
        rw [List.head?_eq_getElem?]
        exact ⟨_, List.getElem?_eq_getElem (by omega)⟩
      rw [stab_step ans l h2 rfl rfl ex ey]
      split
      · rw [List.length_append, List.length_singleton]
        omega
      · have q := mrg_cnt ans (stab ans (xs.take ((xs.length + 1) / 2)) l).1 (stab ans (xs.drop ((xs.length + 1) / 2)) (stab ans (xs.take ((xs.length + 1) / 2)) l).2).1 ((stab ans (xs.drop ((xs.length + 1) / 2)) (stab ans (xs.take ((xs.length + 1) / 2)) l).2).2 ++ [(x, y)])
        rw [l1, l2, List.length_append, List.length_singleton] at q
        omega
end
end Mir

/-! Sorting by a key: what stands in the stable order. -/
namespace Mir
section
variable {α : Type}
/-- in order by a key -/
abbrev Srt (key : α → Int) (xs : List α) : Prop := xs.Pairwise fun a b => key a ≤ key b
/-- those of a key -/
def ofK (key : α → Int) (k : Int) (xs : List α) : List α := xs.filter fun x => decide (key x = k)
theorem ofK_nil (key : α → Int) (k : Int) : ofK key k ([] : List α) = [] := rfl
theorem ofK_cons (key : α → Int) (k : Int) (x : α) (xs : List α) : ofK key k (x :: xs) = if key x = k then x :: ofK key k xs else ofK key k xs := by
  unfold ofK
  rw [List.filter_cons]
  by_cases h : key x = k
  · simp [h]
  · simp [h]
theorem ofK_append (key : α → Int) (k : Int) (xs ys : List α) : ofK key k (xs ++ ys) = ofK key k xs ++ ofK key k ys := by unfold ofK; exact List.filter_append _ _
theorem ofK_none {key : α → Int} {k : Int} {xs : List α} (h : ∀ x ∈ xs, key x ≠ k) : ofK key k xs = [] := by
  unfold ofK
  rw [List.filter_eq_nil_iff]
  intro x hx
  simp [h x hx]
theorem sort_uniq (key : α → Int) : ∀ (xs ys : List α), Srt key xs → Srt key ys → (∀ k, ofK key k xs = ofK key k ys) → xs = ys
  | [], [], _, _, _ => rfl
  | [], y :: ys, _, _, h => by
    have e := h (key y)
    rw [ofK_nil, ofK_cons, if_pos rfl] at e
    cases e
  | x :: xs, [], _, _, h => by
    have e := h (key x)
    rw [ofK_nil, ofK_cons, if_pos rfl] at e
    cases e
  | x :: xs, y :: ys, hx, hy, h => by
    obtain ⟨x1, x2⟩ := List.pairwise_cons.mp hx
    obtain ⟨y1, y2⟩ := List.pairwise_cons.mp hy
    have hk : key x = key y := by
      rcases Int.lt_trichotomy (key x) (key y) with c | c | c
      · have e := h (key x)
        rw [ofK_cons, if_pos rfl, ofK_none (xs := y :: ys) (fun z hz => by
          rcases List.mem_cons.mp hz with q | q
          · rw [q]; omega
          · have := y1 z q; omega)] at e
        cases e
      · exact c
      · have e := h (key y)
        rw [ofK_cons key _ y, if_pos rfl, ofK_none (xs := x :: xs) (fun z hz => by
          rcases List.mem_cons.mp hz with q | q
          · rw [q]; omega
          · have := x1 z q; omega)] at e
        cases e
    have e := h (key x)
    rw [ofK_cons, ofK_cons, if_pos rfl, if_pos hk.symm] at e
    injection e with e1 e2
    subst e1
    rw [sort_uniq key xs ys x2 y2 fun k => ?_]
    have e := h k
    rw [ofK_cons, ofK_cons] at e
    by_cases q : key x = k
    · rw [if_pos q, if_pos q] at e
      injection e
    · rw [if_neg q, if_neg q] at e
      exact e
variable {ans : Ans α} {key : α → Int}
theorem mrg_srt (A : KeyA ans key) : ∀ (xs ys : List α) (l : List (α × α)), Srt key xs → Srt key ys → Srt key (mrg ans xs ys l).1 ∧ ∀ k, ofK key k (mrg ans xs ys l).1 = ofK key k xs ++ ofK key k ys
  | [], ys, l, hx, hy => by rw [mrg_nil]; exact ⟨hy, fun k => rfl⟩
  | x :: xs, [], l, hx, hy => by rw [mrg_nil2]; exact ⟨hx, fun k => (List.append_nil _).symm⟩
  | x :: xs, y :: ys, l, hx, hy => by
    obtain ⟨x1, x2⟩ := List.pairwise_cons.mp hx
    obtain ⟨y1, y2⟩ := List.pairwise_cons.mp hy
    rw [mrg_cons]
    split
    · rename_i q
      have q := (A.le _ _ _).mp q
      obtain ⟨i1, i2⟩ := mrg_srt A xs (y :: ys) (l ++ [(x, y)]) x2 hy
      refine ⟨List.pairwise_cons.mpr ⟨fun z hz => ?_, i1⟩, fun k => ?_⟩
      · rcases mrg_mem ans _ _ _ z hz with m | m
        · exact x1 z m
        · rcases List.mem_cons.mp m with m | m
          · rw [m]; exact q
          · have := y1 z m; omega
      · show ofK key k (x :: _) = _
        rw [ofK_cons, ofK_cons, i2 k]
        split <;> rfl
    · rename_i q
      have q : key y < key x := by
        have := A.le l x y
        omega
      obtain ⟨i1, i2⟩ := mrg_srt A (x :: xs) ys (l ++ [(x, y)]) hx y2
      refine ⟨List.pairwise_cons.mpr ⟨fun z hz => ?_, i1⟩, fun k => ?_⟩
      · rcases mrg_mem ans _ _ _ z hz with m | m
        · rcases List.mem_cons.mp m with m | m
          · rw [m]; omega
          · have := x1 z m; omega
        · exact y1 z m
      · show ofK key k (y :: _) = _
        rw [ofK_cons, i2 k, ofK_cons key k y ys]
        split
        · rename_i e
          rw [ofK_none (xs := x :: xs) (fun z hz => by
            rcases List.mem_cons.mp hz with m | m
            · rw [m]; omega
            · have := x1 z m; omega)]
          rfl
        · rfl
termination_by xs ys => xs.length + ys.length
theorem srt_append {xs ys : List α} {x y : α} (hx : Srt key xs) (hy : Srt key ys) (ex : xs.getLast? = some x) (ey : ys.head? = some y) (h : key x ≤ key y) : Srt key (xs ++ ys) := by
  refine List.pairwise_append.mpr ⟨hx, hy, fun a ha b hb => ?_⟩
  obtain ⟨r, er⟩ := List.getLast?_eq_some_iff.mp ex
  have h1 : key a ≤ key x := by
    rw [er] at ha hx
    rcases List.mem_append.mp ha with m | m
    · exact (List.pairwise_append.mp hx).2.2 a m x (List.mem_singleton.mpr rfl)
    · rw [List.mem_singleton.mp m]; omega
  have h2 : key y ≤ key b := by
    cases ys with
    | nil => cases hb
    | cons z zs =>
      have : z = y := Option.some.inj ey
      subst this
      rcases List.mem_cons.mp hb with m | m
      · rw [m]; omega
      · exact (List.pairwise_cons.mp hy).1 b m
  omega
theorem stab_srt (A : KeyA ans key) (n : Nat) : ∀ (xs : List α) (l : List (α × α)), xs.length ≤ n → Srt key (stab ans xs l).1 ∧ ∀ k, ofK key k (stab ans xs l).1 = ofK key k xs := by
  induction n with
  | zero =>
    intro xs l h
    have e : xs = [] := List.length_eq_zero_iff.mp (by omega)
    subst e
    rw [stab_small ans l (by simp)]
    exact ⟨List.Pairwise.nil, fun k => rfl⟩
  | succ n ih =>
    intro xs l h
    by_cases h2 : xs.length < 2
    · rw [stab_small ans l h2]
      refine ⟨?_, fun k => rfl⟩
      cases xs with
      | nil => exact List.Pairwise.nil
      | cons x r =>
        cases r with
        | nil => exact List.pairwise_singleton _ _
        | cons y s => exact absurd h2 (by simp)
    · have t1 : (xs.take ((xs.length + 1) / 2)).length = (xs.length + 1) / 2 := by rw [List.length_take]; omega
      have t2 : (xs.drop ((xs.length + 1) / 2)).length = xs.length - (xs.length + 1) / 2 := List.length_drop
      obtain ⟨i1, i2⟩ := ih (xs.take ((xs.length + 1) / 2)) l (by omega)
      obtain ⟨j1, j2⟩ := ih (xs.drop ((xs.length + 1) / 2)) (stab ans (xs.take ((xs.length + 1) / 2)) l).2 (by omega)
      have l1 := stab_len ans n (xs.take ((xs.length + 1) / 2)) l (by omega)
      have l2 := stab_len ans n (xs.drop ((xs.length + 1) / 2)) (stab ans (xs.take ((xs.length + 1) / 2)) l).2 (by omega)
      have both : ∀ k, ofK key k (xs.take ((xs.length + 1) / 2)) ++ ofK key k (xs.drop ((xs.length + 1) / 2)) = ofK key k xs := fun k => by
        rw [← ofK_append, List.take_append_drop]
      obtain ⟨x, ex⟩ : ∃ x, (stab ans (xs.take ((xs.length + 1) / 2)) l).1.getLast? = some x := by
        rw [List.getLast?_eq_getElem?]
        exact ⟨_, List.getElem?_eq_getElem (by omega)⟩
      obtain ⟨y, ey⟩ : ∃ y, (stab ans (xs.drop ((xs.length + 1) / 2)) (stab ans (xs.take ((xs.length + 1) / 2)) l).2).1.head? = some y := by
        rw [List.head?_eq_getElem?]
        exact ⟨_, List.getElem?_eq_getElem (by omega)⟩
      rw [stab_step ans l h2 rfl rfl ex ey]
      split
      · rename_i q
        refine ⟨srt_append i1 j1 ex ey ((A.le _ _ _).mp q), fun k => ?_⟩
        show ofK key k (_ ++ _) = _
        rw [ofK_append, i2, j2, both]
      · obtain ⟨m1, m2⟩ := mrg_srt A _ _ ((stab ans (xs.drop ((xs.length + 1) / 2)) (stab ans (xs.take ((xs.length + 1) / 2)) l).2).2 ++ [(x, y)]) i1 j1
        exact ⟨m1, fun k => by rw [m2, i2, j2, both]⟩
/-! ### insertion -/
theorem plc_spec (key : α → Int) (made : List α) (e : α) : ∀ n, n ≤ made.length → (∀ j z, plc key made e n ≤ j → j < n → made[j]? = some z → key e < key z) ∧ (0 < plc key made e n → ∃ z, made[plc key made e n - 1]? = some z ∧ key z ≤ key e)
  | 0, _ => ⟨fun j z _ h => absurd h (Nat.not_lt_zero j), fun h => by rw [plc_zero] at h; omega⟩
  | n + 1, h => by
    obtain ⟨i1, i2⟩ := plc_spec key made e n (by omega)
    obtain ⟨z, hz⟩ : ∃ z, made[n]? = some z := ⟨_, List.getElem?_eq_getElem (by omega)⟩
    by_cases q : key e < key z
    · rw [plc_lt hz q]
      refine ⟨fun j z' h1 h2 h3 => ?_, i2⟩
      by_cases hj : j < n
      · exact i1 j z' h1 hj h3
      · have : j = n := by omega
        subst this
        rw [hz] at h3
        cases h3
        exact q
    · rw [plc_ge hz q]
      exact ⟨fun j z' h1 h2 _ => by omega, fun _ => ⟨z, hz, by omega⟩⟩
theorem srt_get {xs : List α} (h : Srt key xs) {i j : Nat} {x y : α} (hij : i ≤ j) (ex : xs[i]? = some x) (ey : xs[j]? = some y) : key x ≤ key y := by
  obtain ⟨h1, e1⟩ := List.getElem?_eq_some_iff.mp ex
  obtain ⟨h2, e2⟩ := List.getElem?_eq_some_iff.mp ey
  by_cases q : i = j
  · subst q
    rw [e1] at e2
    rw [e2]
    omega
  · have := List.pairwise_iff_getElem.mp h i j h1 h2 (by omega)
    rw [e1, e2] at this
    exact this
theorem ins1_srt {made : List α} (e : α) (h : Srt key made) : Srt key (ins1 key made e) ∧ ∀ k, ofK key k (ins1 key made e) = ofK key k made ++ ofK key k [e] := by
  obtain ⟨s1, s2⟩ := plc_spec key made e made.length (Nat.le_refl _)
  have hp := plc_le key made e made.length
  obtain ⟨p, ep⟩ : ∃ p, p = plc key made e made.length := ⟨_, rfl⟩
  rw [← ep] at s1 s2 hp
  have lo : ∀ z ∈ made.take p, key z ≤ key e := fun z hz => by
    obtain ⟨i, hi⟩ := List.mem_iff_getElem?.mp hz
    have hip : i < p := by
      have := (List.getElem?_eq_some_iff.mp hi).1
      rw [List.length_take] at this
      omega
    rw [List.getElem?_take_of_lt hip] at hi
    obtain ⟨y, hy, hy2⟩ := s2 (by omega)
    have := srt_get h (show i ≤ p - 1 by omega) hi hy
    omega
  have hi : ∀ z ∈ made.drop p, key e < key z := fun z hz => by
    obtain ⟨i, hi⟩ := List.mem_iff_getElem?.mp hz
    rw [List.getElem?_drop] at hi
    exact s1 (p + i) z (by omega) (List.getElem?_eq_some_iff.mp hi).1 hi
  have ht : Srt key (made.take p) := h.sublist (List.take_sublist _ _)
  have hd : Srt key (made.drop p) := h.sublist (List.drop_sublist _ _)
  have hc : ∀ a ∈ made.take p, ∀ b ∈ made.drop p, key a ≤ key b := fun a ha b hb => by
    have := lo a ha
    have := hi b hb
    omega
  unfold ins1
  rw [← ep]
  refine ⟨?_, fun k => ?_⟩
  · refine List.pairwise_append.mpr ⟨List.pairwise_append.mpr ⟨ht, List.pairwise_singleton _ _, fun a ha b hb => ?_⟩, hd, fun a ha b hb => ?_⟩
    · rw [List.mem_singleton.mp hb]
      exact lo a ha
    · rcases List.mem_append.mp ha with m | m
      · exact hc a m b hb
      · rw [List.mem_singleton.mp m]
        have := hi b hb
        omega
  · rw [ofK_append, ofK_append]
    have e1 : ofK key k made = ofK key k (made.take p) ++ ofK key k (made.drop p) := by rw [← ofK_append, List.take_append_drop]
    rw [e1, List.append_assoc, List.append_assoc]
    congr 1
    by_cases q : key e = k
    · rw [ofK_none (xs := made.drop p) fun z hz => by have := hi z hz; omega]
      simp
    · rw [ofK_none (xs := [e]) fun z hz => by rw [List.mem_singleton.mp hz]; exact q]
      simp
theorem isort_srt (key : α → Int) (xs : List α) : Srt key (isort key xs) ∧ ∀ k, ofK key k (isort key xs) = ofK key k xs := by
  have : ∀ (ys acc : List α), Srt key acc → Srt key (ys.foldl (ins1 key) acc) ∧ ∀ k, ofK key k (ys.foldl (ins1 key) acc) = ofK key k acc ++ ofK key k ys := by
    intro ys
    induction ys with
    | nil => intro acc h; exact ⟨h, fun k => (List.append_nil _).symm⟩
    | cons y ys ih =>
      intro acc h
      obtain ⟨i1, i2⟩ := ins1_srt y h
      obtain ⟨j1, j2⟩ := ih _ i1
      rw [List.foldl_cons]
      refine ⟨j1, fun k => ?_⟩
      rw [j2, i2, List.append_assoc, ← ofK_append]
      rfl
  exact this xs [] List.Pairwise.nil
theorem isort_id {xs : List α} (h : Srt key xs) : isort key xs = xs := sort_uniq key _ _ (isort_srt key xs).1 h (isort_srt key xs).2
theorem isort_eq {xs ys : List α} (h : Srt key ys) (hk : ∀ k, ofK key k ys = ofK key k xs) : ys = isort key xs := sort_uniq key _ _ h (isort_srt key xs).1 fun k => by rw [hk, (isort_srt key xs).2]
/-- STABLE tells the stable order -/
theorem stab_isort (A : KeyA ans key) (xs : List α) (l : List (α × α)) : (stab ans xs l).1 = isort key xs := by
  obtain ⟨h1, h2⟩ := stab_srt A _ xs l (Nat.le_refl _)
  exact isort_eq h1 h2
/-- of a row in order: n - 1 questions at most -/
theorem stab_cnt_srt (A : KeyA ans key) (n : Nat) : ∀ (xs : List α) (l : List (α × α)), xs.length ≤ n → Srt key xs → (stab ans xs l).2.length ≤ l.length + (xs.length - 1) := by
  induction n with
  | zero => intro xs l h _; rw [stab_small ans l (by omega)]; exact Nat.le_add_right _ _
  | succ n ih =>
    intro xs l h hs
    by_cases h2 : xs.length < 2
    · rw [stab_small ans l h2]; exact Nat.le_add_right _ _
    · have t1 : (xs.take ((xs.length + 1) / 2)).length = (xs.length + 1) / 2 := by rw [List.length_take]; omega
      have t2 : (xs.drop ((xs.length + 1) / 2)).length = xs.length - (xs.length + 1) / 2 := List.length_drop
      have hs1 : Srt key (xs.take ((xs.length + 1) / 2)) := hs.sublist (List.take_sublist _ _)
      have hs2 : Srt key (xs.drop ((xs.length + 1) / 2)) := hs.sublist (List.drop_sublist _ _)
      have i1 := ih (xs.take ((xs.length + 1) / 2)) l (by omega) hs1
      have i2 := ih (xs.drop ((xs.length + 1) / 2)) (stab ans (xs.take ((xs.length + 1) / 2)) l).2 (by omega) hs2
      have e1 : (stab ans (xs.take ((xs.length + 1) / 2)) l).1 = xs.take ((xs.length + 1) / 2) := by rw [stab_isort A, isort_id hs1]
      have e2 : (stab ans (xs.drop ((xs.length + 1) / 2)) (stab ans (xs.take ((xs.length + 1) / 2)) l).2).1 = xs.drop ((xs.length + 1) / 2) := by rw [stab_isort A, isort_id hs2]
      obtain ⟨x, ex⟩ : ∃ x, (xs.take ((xs.length + 1) / 2)).getLast? = some x := by
        rw [List.getLast?_eq_getElem?]
        exact ⟨_, List.getElem?_eq_getElem (by omega)⟩
      obtain ⟨y, ey⟩ : ∃ y, (xs.drop ((xs.length + 1) / 2)).head? = some y := by
        rw [List.head?_eq_getElem?]
        exact ⟨_, List.getElem?_eq_getElem (by omega)⟩
      have hxy : key x ≤ key y := by
        have mx : x ∈ xs.take ((xs.length + 1) / 2) := List.mem_of_getLast? ex
        have my : y ∈ xs.drop ((xs.length + 1) / 2) := by
          rw [List.head?_eq_getElem?] at ey
          exact List.mem_of_getElem? ey
        have hs' := hs
        rw [← List.take_append_drop ((xs.length + 1) / 2) xs] at hs'
        exact (List.pairwise_append.mp hs').2.2 x mx y my
      rw [stab_step ans l h2 rfl rfl (by rw [e1]; exact ex) (by rw [e2]; exact ey), if_pos ((A.le _ _ _).mpr hxy), List.length_append, List.length_singleton]
      rw [t1] at i1
      rw [t2] at i2
      omega
/-! ### what is asked of -/
/-- the log grew by questions of P -/
def Grew (P : α × α → Prop) (l l' : List (α × α)) : Prop := ∃ m, l' = l ++ m ∧ ∀ z ∈ m, P z
theorem Grew.refl (P : α × α → Prop) (l : List (α × α)) : Grew P l l := ⟨[], (List.append_nil _).symm, fun z h => by cases h⟩
theorem Grew.trans {P : α × α → Prop} {l l1 l2 : List (α × α)} (a : Grew P l l1) (b : Grew P l1 l2) : Grew P l l2 := by
  obtain ⟨m, e, h⟩ := a
  obtain ⟨n, f, g⟩ := b
  refine ⟨m ++ n, by rw [f, e, List.append_assoc], fun z hz => ?_⟩
  rcases List.mem_append.mp hz with q | q
  · exact h z q
  · exact g z q
theorem Grew.mono {P Q : α × α → Prop} {l l' : List (α × α)} (a : Grew P l l') (h : ∀ z, P z → Q z) : Grew Q l l' := by
  obtain ⟨m, e, g⟩ := a
  exact ⟨m, e, fun z hz => h z (g z hz)⟩
theorem Grew.one {P : α × α → Prop} {l : List (α × α)} {z : α × α} (h : P z) : Grew P l (l ++ [z]) := ⟨[z], rfl, fun y hy => by rw [List.mem_singleton.mp hy]; exact h⟩
theorem Grew.of_nil {P : α × α → Prop} {l : List (α × α)} (a : Grew P [] l) : ∀ z ∈ l, P z := by
  obtain ⟨m, e, h⟩ := a
  rw [e]
  simpa using h
theorem mrg_grew (ans : Ans α) : ∀ (xs ys : List α) (l : List (α × α)), Grew (fun z => z.1 ∈ xs ∧ z.2 ∈ ys) l (mrg ans xs ys l).2
  | [], ys, l => by rw [mrg_nil]; exact .refl _ _
  | x :: xs, [], l => by rw [mrg_nil2]; exact .refl _ _
  | x :: xs, y :: ys, l => by
    have h1 := mrg_grew ans xs (y :: ys) (l ++ [(x, y)])
    have h2 := mrg_grew ans (x :: xs) ys (l ++ [(x, y)])
    rw [mrg_cons]
    split
    · exact (Grew.one ⟨List.mem_cons_self, List.mem_cons_self⟩).trans (h1.mono fun z h => ⟨List.mem_cons_of_mem _ h.1, h.2⟩)
    · exact (Grew.one ⟨List.mem_cons_self, List.mem_cons_self⟩).trans (h2.mono fun z h => ⟨h.1, List.mem_cons_of_mem _ h.2⟩)
termination_by xs ys => xs.length + ys.length
theorem stab_grew (ans : Ans α) (n : Nat) : ∀ (xs : List α) (l : List (α × α)), xs.length ≤ n → Grew (fun z => z.1 ∈ xs ∧ z.2 ∈ xs) l (stab ans xs l).2 := by
  induction n with
  | zero => intro xs l h; rw [stab_small ans l (by omega)]; exact .refl _ _
  | succ n ih =>
    intro xs l h
    by_cases h2 : xs.length < 2
    · rw [stab_small ans l h2]; exact .refl _ _
    · have t1 : (xs.take ((xs.length + 1) / 2)).length = (xs.length + 1) / 2 := by rw [List.length_take]; omega
      have t2 : (xs.drop ((xs.length + 1) / 2)).length = xs.length - (xs.length + 1) / 2 := List.length_drop
      have i1 := ih (xs.take ((xs.length + 1) / 2)) l (by omega)
      have i2 := ih (xs.drop ((xs.length + 1) / 2)) (stab ans (xs.take ((xs.length + 1) / 2)) l).2 (by omega)
      have l1 := stab_len ans n (xs.take ((xs.length + 1) / 2)) l (by omega)
      have l2 := stab_len ans n (xs.drop ((xs.length + 1) / 2)) (stab ans (xs.take ((xs.length + 1) / 2)) l).2 (by omega)
      have m1 : ∀ z, z ∈ (stab ans (xs.take ((xs.length + 1) / 2)) l).1 → z ∈ xs := fun z hz => List.mem_of_mem_take (stab_mem ans _ _ _ z (Nat.le_refl _) hz)
      have m2 : ∀ z, z ∈ (stab ans (xs.drop ((xs.length + 1) / 2)) (stab ans (xs.take ((xs.length + 1) / 2)) l).2).1 → z ∈ xs := fun z hz => List.mem_of_mem_drop (stab_mem ans _ _ _ z (Nat.le_refl _) hz)
      have g12 : Grew (fun z => z.1 ∈ xs ∧ z.2 ∈ xs) l (stab ans (xs.drop ((xs.length + 1) / 2)) (stab ans (xs.take ((xs.length + 1) / 2)) l).2).2 :=
        (i1.mono fun z h => ⟨List.mem_of_mem_take h.1, List.mem_of_mem_take h.2⟩).trans (i2.mono fun z h => ⟨List.mem_of_mem_drop h.1, List.mem_of_mem_drop h.2⟩)
      obtain ⟨x, ex⟩ : ∃ x, (stab ans (xs.take ((xs.length + 1) / 2)) l).1.getLast? = some x := by
        rw [List.getLast?_eq_getElem?]
        exact ⟨_, List.getElem?_eq_getElem (by omega)⟩
      obtain ⟨y, ey⟩ : ∃ y, (stab ans (xs.drop ((xs.length + 1) / 2)) (stab ans (xs.take ((xs.length + 1) / 2)) l).2).1.head? = some y := by
        rw [List.head?_eq_getElem?]
        exact ⟨_, List.getElem?_eq_getElem (by omega)⟩
      have g3 := g12.trans (Grew.one (z := (x, y)) ⟨m1 x (List.mem_of_getLast? ex), m2 y (by rw [List.head?_eq_getElem?] at ey; exact List.mem_of_getElem? ey)⟩)
      rw [stab_step ans l h2 rfl rfl ex ey]
      split
      · exact g3
      · exact g3.trans ((mrg_grew ans _ _ _).mono fun z h => ⟨m1 _ h.1, m2 _ h.2⟩)
end
end Mir
namespace Mir
section
variable {α β : Type}
theorem srt_of_keys {key : α → Int} {xs ys : List α} (h : Srt key xs) (e : xs.map key = ys.map key) : Srt key ys := by
  have h1 : (xs.map key).Pairwise (· ≤ ·) := List.pairwise_map.mpr h
  rw [e] at h1
  exact List.pairwise_map.mp h1
theorem srt_of_map {c : α → β} {k : β → Int} {xs ys : List α} (h : Srt (fun x => k (c x)) xs) (e : xs.map c = ys.map c) : Srt (fun x => k (c x)) ys := by
  refine srt_of_keys h ?_
  have e2 := congrArg (List.map k) e
  rw [List.map_map, List.map_map] at e2
  exact e2
end
end Mir
namespace Mir
section
variable {α : Type}
theorem Srt.congr {k1 k2 : α → Int} {xs : List α} (h : Srt k1 xs) (e : ∀ x ∈ xs, k1 x = k2 x) : Srt k2 xs := by
  refine srt_of_keys (key := k2) (xs := xs) ?_ rfl
  have h1 : (xs.map k1).Pairwise (· ≤ ·) := List.pairwise_map.mpr h
  rw [List.map_congr_left e] at h1
  exact List.pairwise_map.mp h1
end
end Mir

/-! counted: the pairs out of order, counted while two rows are merged. -/
namespace Mir
section
variable {α : Type}
/-- what a merge counts -/
def mcn (ans : Ans α) : List α → List α → List (α × α) → Nat
  | [], _, _ => 0
  | _ :: _, [], _ => 0
  | x :: xs, y :: ys, l => if ans l x y ≤ 0 then mcn ans xs (y :: ys) (l ++ [(x, y)]) else mcn ans (x :: xs) ys (l ++ [(x, y)]) + (xs.length + 1)
termination_by xs ys => xs.length + ys.length
theorem mcn_nil (ans : Ans α) (ys : List α) (l : List (α × α)) : mcn ans [] ys l = 0 := by unfold mcn; rfl
theorem mcn_nil2 (ans : Ans α) (xs : List α) (l : List (α × α)) : mcn ans xs [] l = 0 := by
  cases xs with
  | nil => unfold mcn; rfl
  | cons x xs => unfold mcn; rfl
theorem mcn_cons (ans : Ans α) (x y : α) (xs ys : List α) (l : List (α × α)) : mcn ans (x :: xs) (y :: ys) l =
    if ans l x y ≤ 0 then mcn ans xs (y :: ys) (l ++ [(x, y)]) else mcn ans (x :: xs) ys (l ++ [(x, y)]) + (xs.length + 1) := by
  rw [mcn]
/-- at most all pairs -/
theorem mcn_le (ans : Ans α) : ∀ (xs ys : List α) (l : List (α × α)), mcn ans xs ys l ≤ xs.length * ys.length
  | [], ys, l => by rw [mcn_nil]; exact Nat.zero_le _
  | x :: xs, [], l => by rw [mcn_nil2]; exact Nat.zero_le _
  | x :: xs, y :: ys, l => by
    have h1 := mcn_le ans xs (y :: ys) (l ++ [(x, y)])
    have h2 := mcn_le ans (x :: xs) ys (l ++ [(x, y)])
    rw [mcn_cons]
    simp only [List.length_cons] at h1 h2 ⊢
    split
    · have := Nat.add_mul xs.length 1 (ys.length + 1)
      omega
    · have := Nat.mul_add (xs.length + 1) ys.length 1
      omega
termination_by xs ys => xs.length + ys.length
def ctd (ans : Ans α) (xs : List α) (l : List (α × α)) : List α × List (α × α) × Nat :=
  if h : xs.length < 2 then (xs, l, 0)
  else
    let a := ctd ans (xs.take ((xs.length + 1) / 2)) l
    let b := ctd ans (xs.drop ((xs.length + 1) / 2)) a.2.1
    ((mrg ans a.1 b.1 b.2.1).1, (mrg ans a.1 b.1 b.2.1).2, a.2.2 + b.2.2 + mcn ans a.1 b.1 b.2.1)
termination_by xs.length
decreasing_by
  · rw [List.length_take]; omega
  · rw [List.length_drop]; omega
theorem ctd_small (ans : Ans α) {xs : List α} (l : List (α × α)) (h : xs.length < 2) : ctd ans xs l = (xs, l, 0) := by
  rw [ctd, dif_pos h]
theorem ctd_big (ans : Ans α) {xs : List α} (l : List (α × α)) (h : ¬ xs.length < 2) {a b : List α × List (α × α) × Nat} (ea : ctd ans (xs.take ((xs.length + 1) / 2)) l = a) (eb : ctd ans (xs.drop ((xs.length + 1) / 2)) a.2.1 = b) :
    ctd ans xs l = ((mrg ans a.1 b.1 b.2.1).1, (mrg ans a.1 b.1 b.2.1).2, a.2.2 + b.2.2 + mcn ans a.1 b.1 b.2.1) := by
  rw [ctd, dif_neg h, ea]
  show ((mrg ans a.1 (ctd ans (xs.drop ((xs.length + 1) / 2)) a.2.1).1 (ctd ans (xs.drop ((xs.length + 1) / 2)) a.2.1).2.1).1, _, _) = _
  rw [eb]
theorem ctd_len (ans : Ans α) (n : Nat) : ∀ (xs : List α) (l : List (α × α)), xs.length ≤ n → (ctd ans xs l).1.length = xs.length ∧ (∀ z ∈ (ctd ans xs l).1, z ∈ xs) ∧ l.length ≤ (ctd ans xs l).2.1.length ∧ (ctd ans xs l).2.1.length ≤ l.length + xs.length * clog xs.length ∧ 2 * (ctd ans xs l).2.2 ≤ xs.length * (xs.length - 1) := by
  induction n with
  | zero =>
    intro xs l h
    rw [ctd_small ans l (by omega)]
    exact ⟨rfl, fun z h => h, Nat.le_refl _, Nat.le_add_right _ _, Nat.zero_le _⟩
  | succ n ih =>
    intro xs l h
    by_cases q : xs.length < 2
    · rw [ctd_small ans l q]
      exact ⟨rfl, fun z h => h, Nat.le_refl _, Nat.le_add_right _ _, Nat.zero_le _⟩
    obtain ⟨a, ea⟩ : ∃ a, ctd ans (xs.take ((xs.length + 1) / 2)) l = a := ⟨_, rfl⟩
    obtain ⟨b, eb⟩ : ∃ b, ctd ans (xs.drop ((xs.length + 1) / 2)) a.2.1 = b := ⟨_, rfl⟩
    have lt : (xs.take ((xs.length + 1) / 2)).length = (xs.length + 1) / 2 := by rw [List.length_take]; omega
    have ld : (xs.drop ((xs.length + 1) / 2)).length = xs.length / 2 := by rw [List.length_drop]; omega
    have h1 := ih (xs.take ((xs.length + 1) / 2)) l (by omega)
    have h2 := ih (xs.drop ((xs.length + 1) / 2)) a.2.1 (by omega)
    rw [ea, lt] at h1
    rw [eb, ld] at h2
    obtain ⟨a1, a2, a3, a4, a5⟩ := h1
    obtain ⟨b1, b2, b3, b4, b5⟩ := h2
    rw [ctd_big ans l q ea eb]
    have mc := mrg_cnt ans a.1 b.1 b.2.1
    have ml := mrg_len ans a.1 b.1 b.2.1
    have mm := mcn_le ans a.1 b.1 b.2.1
    refine ⟨?_, fun z hz => ?_, ?_, ?_, ?_⟩
    · show (mrg ans a.1 b.1 b.2.1).1.length = _
      omega
    · rcases mrg_mem ans a.1 b.1 b.2.1 z hz with q | q
      · exact List.mem_of_mem_take (a2 z q)
      · exact List.mem_of_mem_drop (b2 z q)
    · show l.length ≤ (mrg ans a.1 b.1 b.2.1).2.length
      omega
    · show (mrg ans a.1 b.1 b.2.1).2.length ≤ _
      rw [clog_half q]
      have c1 : xs.length / 2 * clog (xs.length / 2) ≤ xs.length / 2 * clog ((xs.length + 1) / 2) := Nat.mul_le_mul_left _ (clog_mono (by omega))
      have c2 : (xs.length + 1) / 2 * clog ((xs.length + 1) / 2) + xs.length / 2 * clog ((xs.length + 1) / 2) = xs.length * clog ((xs.length + 1) / 2) := by
        rw [← Nat.add_mul]
        congr 1
        omega
      have c3 := Nat.mul_add xs.length (clog ((xs.length + 1) / 2)) 1
      omega
    · show 2 * (a.2.2 + b.2.2 + mcn ans a.1 b.1 b.2.1) ≤ _
      rw [a1, b1] at mm
      obtain ⟨p, hp⟩ : ∃ p, p = (xs.length + 1) / 2 := ⟨_, rfl⟩
      obtain ⟨r, hr⟩ : ∃ r, r = xs.length / 2 := ⟨_, rfl⟩
      rw [← hp] at a5 mm
      rw [← hr] at b5 mm
      have en : xs.length = p + r := by omega
      have e1 : (p + r) * (p + r - 1) = p * (p - 1) + r * (r - 1) + 2 * (p * r) := by
        obtain ⟨p', rfl⟩ : ∃ p', p = p' + 1 := ⟨p - 1, by omega⟩
        obtain ⟨r', rfl⟩ : ∃ r', r = r' + 1 := ⟨r - 1, by omega⟩
        simp only [Nat.add_sub_cancel, show p' + 1 + (r' + 1) - 1 = p' + r' + 1 by omega]
        simp only [Nat.add_mul, Nat.mul_add, Nat.one_mul, Nat.mul_one]
        rw [Nat.mul_comm r' p']
        omega
      rw [en, e1]
      omega
/-! ### the pairs out of order -/
variable {ans : Ans α} {key : α → Int}
/-- how many of a row lie above -/
def abv (key : α → Int) (xs : List α) (y : α) : Nat := (xs.filter fun x => decide (key y < key x)).length
theorem abv_nil (y : α) : abv key [] y = 0 := rfl
theorem abv_cons (x : α) (xs : List α) (y : α) : abv key (x :: xs) y = (if key y < key x then 1 else 0) + abv key xs y := by
  unfold abv
  rw [List.filter_cons]
  by_cases h : key y < key x
  · rw [if_pos (decide_eq_true h), if_pos h, List.length_cons]; omega
  · rw [if_neg (by rw [decide_eq_false h]; exact Bool.false_ne_true), if_neg h, Nat.zero_add]
theorem abv_append (xs ys : List α) (z : α) : abv key (xs ++ ys) z = abv key xs z + abv key ys z := by
  unfold abv
  rw [List.filter_append, List.length_append]
/-- the pairs across two rows -/
def crs (key : α → Int) (xs : List α) : List α → Nat
  | [] => 0
  | y :: ys => abv key xs y + crs key xs ys
theorem crs_nil (ys : List α) : crs key [] ys = 0 := by
  induction ys with
  | nil => rfl
  | cons y ys ih => rw [crs, ih]; rfl
theorem crs_append (xs ys zs : List α) : crs key xs (ys ++ zs) = crs key xs ys + crs key xs zs := by
  induction ys with
  | nil => rw [List.nil_append, crs, Nat.zero_add]
  | cons y ys ih => rw [List.cons_append, crs, crs, ih, Nat.add_assoc]
theorem crs_left (x : α) (xs ys : List α) : crs key (x :: xs) ys = crs key [x] ys + crs key xs ys := by
  induction ys with
  | nil => rfl
  | cons y ys ih =>
    rw [crs, crs, crs, ih, abv_cons, abv_cons, abv_nil]
    omega
theorem crs_low {x : α} {ys : List α} (h : ∀ y ∈ ys, key x ≤ key y) : crs key [x] ys = 0 := by
  induction ys with
  | nil => rfl
  | cons y ys ih =>
    rw [crs, abv_cons, abv_nil, if_neg (by have := h y List.mem_cons_self; omega), ih fun z hz => h z (List.mem_cons_of_mem _ hz)]
theorem abv_all {xs : List α} {y : α} (h : ∀ x ∈ xs, key y < key x) : abv key xs y = xs.length := by
  unfold abv
  rw [List.filter_eq_self.mpr fun x hx => decide_eq_true (h x hx)]
theorem mcn_crs (A : KeyA ans key) : ∀ (xs ys : List α) (l : List (α × α)), Srt key xs → Srt key ys → mcn ans xs ys l = crs key xs ys
  | [], ys, l, _, _ => by rw [mcn_nil, crs_nil]
  | x :: xs, [], l, _, _ => by rw [mcn_nil2]; rfl
  | x :: xs, y :: ys, l, hx, hy => by
    obtain ⟨x1, x2⟩ := List.pairwise_cons.mp hx
    obtain ⟨y1, y2⟩ := List.pairwise_cons.mp hy
    rw [mcn_cons]
    by_cases h : ans l x y ≤ 0
    · have k := (A.le l x y).mp h
      rw [if_pos h, mcn_crs A xs (y :: ys) _ x2 hy, crs_left x xs, crs_low (x := x), Nat.zero_add]
      intro z hz
      rcases List.mem_cons.mp hz with q | q
      · rw [q]; exact k
      · have := y1 z q; omega
    · have k : key y < key x := (A.pos l x y).mp (by omega)
      rw [if_neg h, mcn_crs A (x :: xs) ys _ hx y2, crs, abv_all (xs := x :: xs), List.length_cons, Nat.add_comm]
      intro z hz
      rcases List.mem_cons.mp hz with q | q
      · rw [q]; exact k
      · have := x1 z q; omega
termination_by xs ys => xs.length + ys.length
/-- the pairs out of order within a row -/
def inv (key : α → Int) : List α → Nat
  | [] => 0
  | x :: xs => crs key [x] xs + inv key xs
theorem inv_append (xs ys : List α) : inv key (xs ++ ys) = inv key xs + inv key ys + crs key xs ys := by
  induction xs with
  | nil => rw [List.nil_append, inv, crs_nil]; omega
  | cons x xs ih =>
    rw [List.cons_append, inv, inv, ih, crs_append, crs_left x xs ys]
    omega
theorem crs_perm1 {xs xs' : List α} (p : xs.Perm xs') (ys : List α) : crs key xs ys = crs key xs' ys := by
  induction ys with
  | nil => rfl
  | cons y ys ih =>
    rw [crs, crs, ih]
    unfold abv
    rw [(p.filter _).length_eq]
theorem crs_perm2 (xs : List α) {ys ys' : List α} (p : ys.Perm ys') : crs key xs ys = crs key xs ys' := by
  induction p with
  | nil => rfl
  | cons x _ ih => rw [crs, crs, ih]
  | swap x y l => rw [crs, crs, crs, crs]; omega
  | trans _ _ ih1 ih2 => rw [ih1, ih2]
theorem mrg_perm (ans : Ans α) : ∀ (xs ys : List α) (l : List (α × α)), (mrg ans xs ys l).1.Perm (xs ++ ys)
  | [], ys, l => by rw [mrg_nil]; exact List.Perm.refl _
  | x :: xs, [], l => by rw [mrg_nil2, List.append_nil]
  | x :: xs, y :: ys, l => by
    have h1 := mrg_perm ans xs (y :: ys) (l ++ [(x, y)])
    have h2 := mrg_perm ans (x :: xs) ys (l ++ [(x, y)])
    rw [mrg_cons]
    split
    · exact List.Perm.cons x h1
    · exact (List.Perm.cons y h2).trans List.perm_middle.symm
termination_by xs ys => xs.length + ys.length
theorem ctd_key (A : KeyA ans key) (n : Nat) : ∀ (xs : List α) (l : List (α × α)), xs.length ≤ n → Srt key (ctd ans xs l).1 ∧ (ctd ans xs l).1.Perm xs ∧ (ctd ans xs l).2.2 = inv key xs := by
  have small : ∀ (xs : List α), xs.length < 2 → Srt key xs ∧ inv key xs = 0 := fun xs q => by
    match xs, q with
    | [], _ => exact ⟨List.Pairwise.nil, rfl⟩
    | [x], _ => exact ⟨List.pairwise_singleton _ _, rfl⟩
    | _ :: _ :: _, q => simp at q; omega
  induction n with
  | zero =>
    intro xs l h
    have s := small xs (by omega)
    rw [ctd_small ans l (by omega)]
    exact ⟨s.1, List.Perm.refl _, s.2.symm⟩
  | succ n ih =>
    intro xs l h
    by_cases q : xs.length < 2
    · have s := small xs q
      rw [ctd_small ans l q]
      exact ⟨s.1, List.Perm.refl _, s.2.symm⟩
    obtain ⟨a, ea⟩ : ∃ a, ctd ans (xs.take ((xs.length + 1) / 2)) l = a := ⟨_, rfl⟩
    obtain ⟨b, eb⟩ : ∃ b, ctd ans (xs.drop ((xs.length + 1) / 2)) a.2.1 = b := ⟨_, rfl⟩
    have h1 := ih (xs.take ((xs.length + 1) / 2)) l (by rw [List.length_take]; omega)
    have h2 := ih (xs.drop ((xs.length + 1) / 2)) a.2.1 (by rw [List.length_drop]; omega)
    rw [ea] at h1
    rw [eb] at h2
    rw [ctd_big ans l q ea eb]
    refine ⟨(mrg_srt A a.1 b.1 b.2.1 h1.1 h2.1).1, ?_, ?_⟩
    · have p := (mrg_perm ans a.1 b.1 b.2.1).trans (h1.2.1.append h2.2.1)
      rw [List.take_append_drop] at p
      exact p
    · show a.2.2 + b.2.2 + mcn ans a.1 b.1 b.2.1 = _
      rw [mcn_crs A a.1 b.1 b.2.1 h1.1 h2.1, h1.2.2, h2.2.2, crs_perm1 h1.2.1, crs_perm2 _ h2.2.1, ← inv_append, List.take_append_drop]
/-- counted from the left, as the law does -/
theorem inv_snoc (xs : List α) (y : α) : inv key (xs ++ [y]) = inv key xs + abv key xs y := by
  rw [inv_append, inv, inv, crs, crs, crs]
  omega
end
end Mir

set_option pp.deepTerms false
set_option pp.maxSteps 1500
namespace Ord
open PySem PySem.Spec PyProof.Rows L2 LamX
section
variable {P : Program} {w : World} {K : PySem.W.Frag} {mg : Str → Option Value} {base : Heap}
def spCounted (P : Program) (w : World) (K : PySem.W.Frag) (mg : Str → Option Value) (base : Heap) (n : Nat) : Sp := fun vs H Q _ => ∃ (O : Orc P w K mg base) (a : Addr) (xs : List V) (l : Lg), vs = [.ref a, .ref O.f] ∧
  Row K O.q H a xs ∧ O.Log l H ∧ O.All xs H ∧ xs.length ≤ 2 ^ n ∧ xs.length ≤ 1000 ∧ l.length + xs.length * Mir.clog xs.length ≤ 90000 ∧
  ∀ H' t p, KB O.q H H' → H t = none → H' t = some (.tup [.ref p, .int ((Mir.ctd O.ans xs l).2.2 : Nat)]) → H' p = some (.lst (Mir.ctd O.ans xs l).1) → p ≠ O.q → O.Log (Mir.ctd O.ans xs l).2.1 H' → Q (.ref t) H'
def N_counted : List Str := ["row", "order", "half", "one", "first", "other", "second", "found", "many", "at", "beside"]
theorem sc_counted : FnScope ["row", "order", "half", "one", "first", "other", "second", "found", "many", "at", "beside"] ["row", "order"] (defScope st_counted) := ⟨rfl, rfl, rfl, by decide +kernel, rfl, by decide +kernel, by decide +kernel⟩
theorem ok_counted (d_counted : Df K mg "counted" st_counted ["row", "order"]) (mLen : mg "len" = none) (mList : mg "list" = none) : ∀ n, FnOk P w K mg base CX0 (n + 4) d_counted.f d_counted.fd ["row", "order"] (spCounted P w K mg base n) := by
  have small : ∀ (O : Orc P w K mg base) (a : Addr) (xs : List V) (l : Lg) (H : Hp) (Q : VK), xs.length < 2 → Row K O.q H a xs → O.Log l H → (∀ H' t p, KB O.q H H' → H t = none → H' t = some (.tup [.ref p, .int ((Mir.ctd O.ans xs l).2.2 : Nat)]) → H' p = some (.lst (Mir.ctd O.ans xs l).1) → p ≠ O.q → O.Log (Mir.ctd O.ans xs l).2.1 H' → Q (.ref t) H') →
      ∀ p t, H p = none → upd H p (.lst xs) t = none → Q (.ref t) (upd (upd H p (.lst xs)) t (.tup [.ref p, .int 0])) := fun O a xs l H Q hs hR hL k p t np nt => by
    have e := Mir.ctd_small O.ans l hs
    rw [e] at k
    exact k _ t p ((KB.new np).trans (KB.new nt)) (upd_none nt) upd_same (kn nt upd_same) (Orc.nq hL np) (Orc.new (Orc.new hL np) nt)
  intro n
  induction n with
  | zero =>
    refine d_counted.F.ok sc_counted (fun vs H Q E h => ?_) (fun cdv A outer s H vs Q E hr h => ?_)
    · obtain ⟨O, a, xs, l, rfl, _⟩ := h
      rfl
    · obtain ⟨O, a, xs, l, rfl, hR, hL, dx, hn, hz, hc, k⟩ := h
      refine ⟨_, pss_cons (ps_if (pt_cmpR op_lt (pe_len mLen (pv 0)) pe_int (nomark _)) (pss_one (ps_ret (pe_tup (pa_cons (pe_callTy call_list_of (by rfl) mList (by decide +kernel) (pa_cons (pv 0) pa_nil)) (pa_cons pe_int pa_nil))))) pss_nil)
        (pss_cons ps_never (pss_cons ps_never (pss_cons ps_never (pss_cons ps_never (pss_cons ps_never (pss_cons ps_never (pss_cons ps_never (pss_cons ps_never (pss_one ps_never))))))))), ?_⟩
      refine ⟨_, rfl, a, xs, rfl, .inl hR.1, _, _, rfl, rfl, _, rfl, ?_⟩
      refine iteD (fun h1 => ?_) (fun h1 => (h1 (by simp only [Nat.pow_zero] at hn; omega)).elim)
      refine ⟨_, rfl, a, xs, rfl, .inl hR.1, fun p np => ?_⟩
      refine ⟨by show 2 ≤ sizeLine; decide, fun t nt => ?_⟩
      exact small O a xs l H Q (by simp only [Nat.pow_zero] at hn; omega) hR hL k p t np nt
  | succ n G_counted =>
    refine d_counted.F.ok sc_counted (fun vs H Q E h => ?_) (fun cdv A outer s H vs Q E hr h => ?_)
    · obtain ⟨O, a, xs, l, rfl, _⟩ := h
      rfl
    · obtain ⟨O, a, xs, l, rfl, hR, hL, dx, hn, hz, hc, k⟩ := h
      have nd := sc_counted.nd
      refine ⟨_, (pss_cons (ps_if (pt_cmpR op_lt (pe_len mLen (pv 0)) pe_int (nomark _))
    (pss_one (ps_ret (pe_tup (pa_cons (pe_callTy call_list_of (by rfl) mList (by decide +kernel) (pa_cons (pv 0) pa_nil)) (pa_cons pe_int pa_nil)))))
    pss_nil)
  (pss_cons (ps_set (i := 2) nd rfl (Or.inl rfl) (pe_op op_fdivE (pe_op op_addE (pe_len mLen (pv 0)) pe_int) pe_int))
  (pss_cons (ps_asg (pe_cd (d := d_counted) G_counted (hr.mono (by omega)) (pa_cons (pe_slice sl_list (pv 0) po_none (po_some (pv 2))) (pa_cons (pv 1) pa_nil))) (pg_tup (by rfl) (pgs_cons (pg_name (i := 3) nd rfl (Or.inl rfl)) (pgs_cons (pg_name (i := 4) nd rfl (Or.inl rfl)) pgs_nil))))
  (pss_cons (ps_asg (pe_cd (d := d_counted) G_counted (hr.mono (by omega)) (pa_cons (pe_slice sl_list (pv 0) (po_some (pv 2)) po_none) (pa_cons (pv 1) pa_nil))) (pg_tup (by rfl) (pgs_cons (pg_name (i := 5) nd rfl (Or.inl rfl)) (pgs_cons (pg_name (i := 6) nd rfl (Or.inl rfl)) pgs_nil))))
  (pss_cons (ps_set (i := 7) nd rfl (Or.inl rfl) (pe_lst pa_nil))
  (pss_cons (ps_set (i := 8) nd rfl (Or.inl rfl) (pe_op op_addE (pv 4) (pv 6)))
  (pss_cons (ps_set (i := 9) nd rfl (Or.inl rfl) pe_int)
  (pss_cons (ps_set (i := 10) nd rfl (Or.inl rfl) pe_int)
  (pss_cons (ps_while PassesOwn.never (PW.pt (pw_and (pt_cmpR op_lt (pv 9) (pe_len mLen (pv 3)) (nomark _)) (pw_and1 (pt_cmpR op_lt (pv 10) (pe_len mLen (pv 5)) (nomark _)))))
    (pss_one (ps_if (pt_cmpR op_le (pe_callV O.run (hr.mono (by omega)) (pa_cons (pe_ix ix_list (pv 3) (pv 9) (fun _ _ => rfl)) (pa_cons (pe_ix ix_list (pv 5) (pv 10) (fun _ _ => rfl)) pa_nil)) (i := 1)) pe_int (nomark _))
    (pss_cons (ps_expr (pe_bm PySem.F.plainAttrs_list PySem.F.slot_list_append PySem.F.type_list_append mt_append (pv 7) (pa_cons (pe_ix ix_list (pv 3) (pv 9) (fun _ _ => rfl)) pa_nil)))
  (pss_one (ps_set (i := 9) nd rfl (Or.inl rfl) (pe_op op_addE (pv 9) pe_int))))
    (pss_cons (ps_expr (pe_bm PySem.F.plainAttrs_list PySem.F.slot_list_append PySem.F.type_list_append mt_append (pv 7) (pa_cons (pe_ix ix_list (pv 5) (pv 10) (fun _ _ => rfl)) pa_nil)))
  (pss_cons (ps_set (i := 8) nd rfl (Or.inl rfl) (pe_op op_subE (pe_op op_addE (pv 8) (pe_len mLen (pv 3))) (pv 9)))
  (pss_one (ps_set (i := 10) nd rfl (Or.inl rfl) (pe_op op_addE (pv 10) pe_int))))))))
  (pss_one (ps_ret (pe_tup (pa_cons (pe_op op_cat (pe_op op_cat (pv 7) (pe_slice sl_list (pv 3) (po_some (pv 9)) po_none)) (pe_slice sl_list (pv 5) (po_some (pv 10)) po_none)) (pa_cons (pv 8) pa_nil)))))))))))))), ?_⟩
      refine ⟨_, rfl, a, xs, rfl, .inl hR.1, _, _, rfl, rfl, _, rfl, ?_⟩
      refine iteD (fun h1 => ?_) (fun h1 => ?_)
      · refine ⟨_, rfl, a, xs, rfl, .inl hR.1, fun p np => ?_⟩
        refine ⟨by show 2 ≤ sizeLine; decide, fun t nt => ?_⟩
        exact small O a xs l H Q (by omega) hR hL k p t np nt
      · have h2 : ¬ xs.length < 2 := by omega
        obtain ⟨h, eh⟩ : ∃ h : Nat, h = (xs.length + 1) / 2 := ⟨_, rfl⟩
        have hh : 1 ≤ h ∧ h < xs.length ∧ xs.length ≤ 2 * h ∧ h ≤ 2 ^ n := by
          rw [Nat.pow_succ] at hn
          omega
        refine ⟨_, rfl, a, xs, rfl, .inl hR.1, _, _, _, rfl, rfl, rfl, _, _, (h : Nat), rfl, rfl, ⟨by decide, by decide⟩, by show ((h : Nat) : Int) = ((xs.length : Int) + 1) / 2; omega, ?_⟩
        have cx : cutV xs none (some (h : Int)) = xs.take h := cut_to1 xs h
        have cy : cutV xs (some (h : Int)) none = xs.drop h := cut_from1 xs h
        have tx : (xs.take h).length = h := by rw [List.length_take]; omega
        have ty : (xs.drop h).length = xs.length - h := List.length_drop
        obtain ⟨c, ec⟩ : ∃ c, c = Mir.clog h := ⟨_, rfl⟩
        have ecn : Mir.clog xs.length = c + 1 := by rw [Mir.clog_half h2, ← eh, ec]
        have ec2 : Mir.clog (xs.length - h) ≤ c := by rw [ec]; exact Mir.clog_mono (by omega)
        have em3 := Nat.mul_le_mul_left (xs.length - h) ec2
        have em4 : h * c + (xs.length - h) * c = xs.length * c := by
          rw [← Nat.add_mul]
          congr 1
          omega
        have em5 : xs.length * (c + 1) = xs.length * c + xs.length := Nat.mul_succ _ _
        rw [ecn, em5] at hc
        -- one, first = counted(row[:half], order)
        refine ⟨_, rfl, _, rfl, _, rfl, a, xs, rfl, hR.1, fun p1 n1 => ?_⟩
        rw [cx]
        refine ⟨_, rfl, O, p1, xs.take h, l, rfl, Row.of upd_same (Orc.nq hL n1), Orc.new hL n1, fun x hx => O.dom (TK.new n1) (dx x (List.mem_of_mem_take hx)), by omega, by omega, by rw [tx, ← ec]; omega, fun H1 t1 q1 kb1 nt1 ht1 hq1 q1q hL1 => ?_⟩
        have kbA : KB O.q H H1 := (KB.new n1).trans kb1
        obtain ⟨A, eA⟩ : ∃ A, A = Mir.ctd O.ans (xs.take h) l := ⟨_, rfl⟩
        have qA := Mir.ctd_len O.ans _ (xs.take h) l (Nat.le_refl _)
        rw [← eA] at ht1 hq1 hL1 qA
        rw [tx, ← ec] at qA
        refine ⟨t1, _, rfl, SqT.of ht1, rfl, _, _, rfl, _, _, rfl, rfl, ?_⟩
        -- other, second = counted(row[half:], order)
        refine ⟨_, rfl, _, rfl, _, rfl, a, xs, rfl, (hR.kb kbA).1, fun p3 n3 => ?_⟩
        rw [cy]
        refine ⟨_, rfl, O, p3, xs.drop h, A.2.1, rfl, Row.of upd_same (Orc.nq hL1 n3), Orc.new hL1 n3, fun x hx => O.dom (kbA.tk.trans (TK.new n3)) (dx x (List.mem_of_mem_drop hx)), by omega, by omega, by rw [ty]; omega, fun H2 t2 q2 kb2 nt2 ht2 hq2 q2q hL2 => ?_⟩
        have kb3 : KB O.q H1 H2 := (KB.new n3).trans kb2
        have kbB : KB O.q H H2 := kbA.trans kb3
        have hq1' := kb3.keep _ _ q1q hq1
        obtain ⟨B, eB⟩ : ∃ B, B = Mir.ctd O.ans (xs.drop h) A.2.1 := ⟨_, rfl⟩
        have qB := Mir.ctd_len O.ans _ (xs.drop h) A.2.1 (Nat.le_refl _)
        rw [← eB] at ht2 hq2 hL2 qB
        rw [ty] at qB
        refine ⟨t2, _, rfl, SqT.of ht2, rfl, _, _, rfl, _, _, rfl, rfl, ?_⟩
        have big := Mir.ctd_big O.ans l h2 (a := A) (b := B) (by rw [← eh]; exact eA.symm) (by rw [← eh]; exact eB.symm)
        rw [big] at k
        have lA : A.1.length = h := qA.1
        have lB : B.1.length = xs.length - h := qB.1
        have dA : O.All A.1 H2 := fun x hx => O.dom kbB.tk (dx x (List.mem_of_mem_take (qA.2.1 x hx)))
        have dB : O.All B.1 H2 := fun x hx => O.dom kbB.tk (dx x (List.mem_of_mem_drop (qB.2.1 x hx)))
        have bound : B.2.1.length + xs.length ≤ 90000 := by omega
        -- the merge
        refine ⟨Nat.zero_le _, fun p np => ?_⟩
        refine ⟨_, rfl, _, rfl, _, _, ((A.2.2 + B.2.2 : Nat) : Int), rfl, rfl, by show ((A.2.2 + B.2.2 : Nat) : Int) = (A.2.2 : Int) + (B.2.2 : Int); omega, ?_⟩
        have pq : p ≠ O.q := Orc.nq hL2 np
        have aq1 : q1 ≠ p := ne_of_none hq1' np
        have aq2 : q2 ≠ p := ne_of_none hq2 np
        refine ⟨fun m σ H' => ∃ (i j cn : Nat) (fs : List V) (l' : Lg), σ = [some (.ref a), some (.ref O.f), some (.int (h : Nat)), some (.ref q1), some (.int (A.2.2 : Nat)), some (.ref q2), some (.int (B.2.2 : Nat)), some (.ref p), some (.int (cn : Nat)), some (.int i), some (.int j)] ∧ i ≤ A.1.length ∧ j ≤ B.1.length ∧ m = (A.1.length - i) + (B.1.length - j) ∧
          KB O.q H2 H' ∧ H' p = some (.lst fs) ∧ O.Log l' H' ∧ fs.length = i + j ∧ l'.length = B.2.1.length + i + j ∧ (Mir.mrg O.ans A.1 B.1 B.2.1).1 = fs ++ (Mir.mrg O.ans (A.1.drop i) (B.1.drop j) l').1 ∧ (Mir.mrg O.ans A.1 B.1 B.2.1).2 = (Mir.mrg O.ans (A.1.drop i) (B.1.drop j) l').2 ∧
          A.2.2 + B.2.2 + Mir.mcn O.ans A.1 B.1 B.2.1 = cn + Mir.mcn O.ans (A.1.drop i) (B.1.drop j) l' ∧ cn ≤ 1000000 + 1000 * j,
          ⟨_, 0, 0, _, [], B.2.1, rfl, Nat.zero_le _, Nat.zero_le _, rfl, KB.new np, upd_same, O.new hL2 np, rfl, rfl, rfl, rfl, rfl, ?_⟩, ?_⟩
        · have m1 : A.1.length * (A.1.length - 1) ≤ 1000 * 1000 := Nat.mul_le_mul (by omega) (by omega)
          have m2 : B.1.length * (B.1.length - 1) ≤ 1000 * 1000 := Nat.mul_le_mul (by omega) (by omega)
          have a5 := qA.2.2.2.2
          have b5 := qB.2.2.2.2
          rw [lA] at m1
          rw [lB] at m2
          omega
        rintro m σ H' ⟨i, j, cn, fs, l', rfl, hi, hj, hm, kb, hp, hL', hfs, hl', e1, e2, e3, hcn⟩
        have ha' : H' q1 = some (.lst A.1) := kb.keep _ _ q1q hq1'
        have hb' : H' q2 = some (.lst B.1) := kb.keep _ _ q2q hq2
        have cx : cutV A.1 (some (i : Int)) none = A.1.drop i := cut_from1 A.1 i
        have cy : cutV B.1 (some (j : Int)) none = B.1.drop j := cut_from1 B.1 j
        have lx : (A.1.drop i).length = A.1.length - i := List.length_drop
        have ly : (B.1.drop j).length = B.1.length - j := List.length_drop
        -- behind the loop
        have fin : (¬ i < A.1.length ∨ ¬ j < B.1.length) → (tRet (tTup (tCons (tOp rCat (tOp rCat (tVar 7) (tSl (rSlL K) (tVar 3) (tPart (tVar 9)) tNoPart)) (tSl (rSlL K) (tVar 5) (tPart (tVar 10)) tNoPart)) (tCons (tVar 8) tNil)))) { nx := fun _ H' => Q .non H', rt := Q } [some (.ref a), some (.ref O.f), some (.int (h : Nat)), some (.ref q1), some (.int (A.2.2 : Nat)), some (.ref q2), some (.int (B.2.2 : Nat)), some (.ref p), some (.int (cn : Nat)), some (.int i), some (.int j)] H' := by
          intro hne
          refine ⟨_, rfl, _, rfl, _, rfl, _, rfl, _, _, rfl, SqL.of ha', fun p1 n1 => ?_⟩
          rw [cx]
          refine ⟨p, p1, fs, A.1.drop i, rfl, rfl, (upd_ne (ne_of_none hp n1)).trans hp, upd_same, z1000 (by omega), fun p2 n2 => ?_⟩
          refine ⟨_, rfl, _, rfl, _, rfl, _, _, rfl, SqL.of ((upd_ne (ne_of_none ((upd_ne (ne_of_none hb' n1)).trans hb') n2)).trans ((upd_ne (ne_of_none hb' n1)).trans hb')), fun p3 n3 => ?_⟩
          rw [cy]
          refine ⟨p2, p3, fs ++ A.1.drop i, B.1.drop j, rfl, rfl, (upd_ne (ne_of_none upd_same n3)).trans upd_same, upd_same, z1000 (by rw [List.length_append]; omega), fun p4 n4 => ?_⟩
          refine ⟨_, rfl, by show 2 ≤ sizeLine; decide, fun t nt => ?_⟩
          have kb4 : KB O.q H' (upd (upd (upd (upd H' p1 (.lst (A.1.drop i))) p2 (.lst (fs ++ A.1.drop i))) p3 (.lst (B.1.drop j))) p4 (.lst (fs ++ A.1.drop i ++ B.1.drop j))) := (((KB.new n1).trans (KB.new n2)).trans (KB.new n3)).trans (KB.new n4)
          have hL4 := Orc.new (o := .lst (fs ++ A.1.drop i ++ B.1.drop j)) (Orc.new (o := .lst (B.1.drop j)) (Orc.new (o := .lst (fs ++ A.1.drop i)) (Orc.new (o := .lst (A.1.drop i)) hL' n1) n2) n3) n4
          have em : Mir.mrg O.ans (A.1.drop i) (B.1.drop j) l' = (A.1.drop i ++ B.1.drop j, l') ∧ Mir.mcn O.ans (A.1.drop i) (B.1.drop j) l' = 0 := by
            rcases hne with z | z
            · rw [List.drop_of_length_le (by omega : A.1.length ≤ i), Mir.mrg_nil, Mir.mcn_nil]
              exact ⟨rfl, rfl⟩
            · rw [List.drop_of_length_le (by omega : B.1.length ≤ j), Mir.mrg_nil2, Mir.mcn_nil2, List.append_nil]
              exact ⟨rfl, rfl⟩
          rw [em.1] at e1 e2
          rw [em.2, Nat.add_zero] at e3
          have kbT := ((kbB.trans kb).trans kb4).trans (KB.new (o := .tup [.ref p4, .int (cn : Nat)]) nt)
          have hLT := Orc.new (o := .tup [.ref p4, .int (cn : Nat)]) hL4 nt
          refine k _ t p4 kbT (((kbB.trans kb).trans kb4).free (Orc.nq hL4 nt) nt) (by rw [upd_same]; show _ = some (HO.tup [.ref p4, .int ((A.2.2 + B.2.2 + Mir.mcn O.ans A.1 B.1 B.2.1 : Nat) : Int)]); rw [e3]) ?_ ?_ ?_
          · show upd _ t _ p4 = some (.lst (Mir.mrg O.ans A.1 B.1 B.2.1).1)
            rw [kn nt upd_same, e1, List.append_assoc]
          · exact Orc.nq hL' (upd_none (upd_none (upd_none n4)))
          · show O.Log (Mir.mrg O.ans A.1 B.1 B.2.1).2 _
            rw [e2]
            exact hLT
        refine ⟨_, rfl, _, rfl, q1, A.1, rfl, .inl (SqL.of ha'), _, _, rfl, rfl, _, rfl, ?_⟩
        refine iteD (fun h1 => ?_) (fun h1 => iteF (fin (.inl (by omega))))
        refine ⟨_, rfl, _, rfl, q2, B.1, rfl, .inl (SqL.of hb'), _, _, rfl, rfl, _, rfl, ?_⟩
        refine iteD (fun h2 => ?_) (fun h2 => fin (.inr (by omega)))
        have h1' : i < A.1.length := by omega
        have h2' : j < B.1.length := by omega
        obtain ⟨x, ex⟩ : ∃ x, A.1[i]? = some x := ⟨_, List.getElem?_eq_getElem h1'⟩
        obtain ⟨y, ey⟩ : ∃ y, B.1[j]? = some y := ⟨_, List.getElem?_eq_getElem h2'⟩
        rw [Mir.drop_cons ex, Mir.drop_cons ey, Mir.mrg_cons] at e1 e2
        rw [Mir.drop_cons ex, Mir.drop_cons ey, Mir.mcn_cons] at e3
        refine ⟨_, fun _ _ h => h, ?_⟩
        -- the question
        refine ⟨rfl, O.isf hL', _, rfl, _, rfl, q1, A.1, _, x, rfl, rfl, SqL.of ha', atI_nat ex, _, rfl, _, rfl, q2, B.1, _, y, rfl, rfl, SqL.of hb', atI_nat ey, O.isf hL', x, y, l', rfl, hL', by omega, (dA.tk kb.tk).get ex, (dB.tk kb.tk).get ey, fun H3 kb1 hL1 => ?_⟩
        have kb' := kb.trans kb1
        have hp1 := kb1.keep _ _ pq hp
        have ha1 := kb1.keep _ _ q1q ha'
        have hb1 := kb1.keep _ _ q2q hb'
        refine ⟨_, _, rfl, rfl, _, rfl, ?_⟩
        refine iteD (fun hc => ?_) (fun hc => ?_)
        · rw [if_pos hc] at e1 e2 e3
          refine ⟨_, rfl, .inl ⟨rfl, _, SqL.of hp1⟩, _, rfl, _, rfl, q1, A.1, _, x, rfl, rfl, SqL.of ha1, atI_nat ex, p, fs, x, rfl, rfl, hp1, small1000 (by omega), ?_⟩
          refine ⟨_, rfl, _, _, ((i + 1 : Nat) : Int), rfl, rfl, rfl, ?_⟩
          refine ⟨_, ?_, i + 1, j, cn, fs ++ [x], _, rfl, by omega, by omega, rfl, kb'.wr np, upd_same, Orc.wr hL1 hp1 nf_lst pq, ?_, ?_, ?_, ?_, ?_, hcn⟩
          · omega
          · rw [List.length_append, List.length_singleton]
            omega
          · rw [List.length_append, List.length_singleton]
            omega
          · rw [e1, Mir.drop_cons ey]
            simp
          · rw [e2, Mir.drop_cons ey]
          · rw [e3, Mir.drop_cons ey]
        · rw [if_neg hc] at e1 e2 e3
          refine ⟨_, rfl, .inl ⟨rfl, _, SqL.of hp1⟩, _, rfl, _, rfl, q2, B.1, _, y, rfl, rfl, SqL.of hb1, atI_nat ey, p, fs, y, rfl, rfl, hp1, small1000 (by omega), ?_⟩
          have ha2 : upd H3 p (.lst (fs ++ [y])) q1 = some (.lst A.1) := (upd_ne aq1).trans ha1
          have ld : (A.1.drop (i + 1)).length = A.1.length - (i + 1) := List.length_drop
          refine ⟨_, rfl, _, rfl, q1, A.1, rfl, .inl (SqL.of ha2), _, _, ((cn + A.1.length : Nat) : Int), rfl, rfl, (by show ((cn + A.1.length : Nat) : Int) = (cn : Int) + (A.1.length : Int); omega), _, rfl, _, _, ((cn + (A.1.length - i) : Nat) : Int), rfl, rfl, (by show ((cn + (A.1.length - i) : Nat) : Int) = ((cn + A.1.length : Nat) : Int) - (i : Int); omega), ?_⟩
          refine ⟨_, rfl, _, _, ((j + 1 : Nat) : Int), rfl, rfl, rfl, ?_⟩
          refine ⟨_, ?_, i, j + 1, cn + (A.1.length - i), fs ++ [y], _, rfl, by omega, by omega, rfl, kb'.wr np, upd_same, Orc.wr hL1 hp1 nf_lst pq, ?_, ?_, ?_, ?_, ?_, ?_⟩
          · omega
          · rw [List.length_append, List.length_singleton]
            omega
          · rw [List.length_append, List.length_singleton]
            omega
          · rw [e1, Mir.drop_cons ex]
            simp
          · rw [e2, Mir.drop_cons ex]
          · rw [e3, Mir.drop_cons ex, ld]
            omega
          · omega
/-! ### turned_pairs -/
def spTurned (P : Program) (w : World) (K : PySem.W.Frag) (mg : Str → Option Value) (base : Heap) : Sp := fun vs H Q _ => ∃ (O : Orc P w K mg base) (a : Addr) (xs : List V) (l : Lg), vs = [.ref a, .ref O.f] ∧
  Row K O.q H a xs ∧ O.Log l H ∧ O.All xs H ∧ xs.length ≤ 64 ∧ l.length + xs.length * Mir.clog xs.length ≤ 90000 ∧
  ∀ H', KB O.q H H' → O.Log (Mir.ctd O.ans xs l).2.1 H' → Q (.int ((Mir.ctd O.ans xs l).2.2 : Nat)) H'
def N_turned_pairs : List Str := ["row", "order"]
theorem sc_turned_pairs : FnScope ["row", "order"] ["row", "order"] (defScope st_turned_pairs) := ⟨rfl, rfl, rfl, by decide +kernel, rfl, by decide +kernel, by decide +kernel⟩
theorem ok_turned (d_turned_pairs : Df K mg "turned_pairs" st_turned_pairs ["row", "order"]) (d_counted : Df K mg "counted" st_counted ["row", "order"]) (mLen : mg "len" = none) (mList : mg "list" = none) : FnOk P w K mg base CX0 11 d_turned_pairs.f d_turned_pairs.fd ["row", "order"] (spTurned P w K mg base) := by
  have G_counted : FnOk P w K mg base CX0 10 d_counted.f d_counted.fd ["row", "order"] (spCounted P w K mg base 6) := ok_counted d_counted mLen mList 6
  refine d_turned_pairs.F.ok sc_turned_pairs (fun vs H Q E h => ?_) (fun cdv A outer s H vs Q E hr h => ?_)
  · obtain ⟨O, a, xs, l, rfl, _⟩ := h
    rfl
  · obtain ⟨O, a, xs, l, rfl, hR, hL, dx, hz, hc, k⟩ := h
    have nd := sc_turned_pairs.nd
    refine ⟨_, (pss_one (ps_ret (pe_ix ix_tup (pe_cd (d := d_counted) G_counted (hr.mono (by omega)) (pa_cons (pv 0) (pa_cons (pv 1) pa_nil))) pe_int (fun _ _ => rfl)))), ?_⟩
    refine ⟨_, rfl, _, rfl, O, a, xs, l, rfl, hR, hL, dx, hz, by omega, hc, fun H1 t p kb nt ht hp pq hL1 => ?_⟩
    exact ⟨t, _, _, _, rfl, rfl, SqT.of ht, rfl, k H1 kb hL1⟩
end
end Ord

/-! ahead, unique, lower, upper. -/
namespace Mir
section
variable {α : Type}
/-! ### ahead -/
def ahI (ans : Ans α) (xs : List α) : Nat → Nat → List (α × α) → Nat × List (α × α)
  | 0, _, l => (xs.length, l)
  | n + 1, k, l => match xs[k - 1]?, xs[k]? with
    | some x, some y => if 0 < ans l x y then (k, l ++ [(x, y)]) else ahI ans xs n (k + 1) (l ++ [(x, y)])
    | _, _ => (xs.length, l)
def ahd (ans : Ans α) (xs : List α) (l : List (α × α)) : Nat × List (α × α) := ahI ans xs (xs.length - 1) 1 l
theorem ahI_step (ans : Ans α) {xs : List α} {n k : Nat} {x y : α} (l : List (α × α)) (ex : xs[k - 1]? = some x) (ey : xs[k]? = some y) : ahI ans xs (n + 1) k l = if 0 < ans l x y then (k, l ++ [(x, y)]) else ahI ans xs n (k + 1) (l ++ [(x, y)]) := by
  rw [ahI, ex, ey]
/-- the neighbours asked of -/
def nbs (xs : List α) (k : Nat) : List (α × α) := (xs.zip (xs.drop 1)).take k
theorem nbs_succ {xs : List α} {k : Nat} {x y : α} (ex : xs[k]? = some x) (ey : xs[k + 1]? = some y) : nbs xs (k + 1) = nbs xs k ++ [(x, y)] := by
  unfold nbs
  have e : (xs.zip (xs.drop 1))[k]? = some (x, y) := by
    rw [List.getElem?_zip_eq_some]
    exact ⟨ex, by rw [List.getElem?_drop, Nat.add_comm]; exact ey⟩
  rw [List.take_add_one, e]
  rfl
theorem ahI_spec (ans : Ans α) (xs : List α) : ∀ (n k : Nat) (l l0 : List (α × α)), 1 ≤ k → n + k = xs.length → l = l0 ++ nbs xs (k - 1) → (ahI ans xs n k l).1 ≤ xs.length ∧ (ahI ans xs n k l).2 = l0 ++ nbs xs (min (ahI ans xs n k l).1 (xs.length - 1))
  | 0, k, l, l0, hk, hn, hl => by
    rw [ahI]
    refine ⟨Nat.le_refl _, ?_⟩
    show l = _
    have e : min xs.length (xs.length - 1) = k - 1 := by omega
    rw [e]
    exact hl
  | n + 1, k, l, l0, hk, hn, hl => by
    obtain ⟨x, ex⟩ : ∃ x, xs[k - 1]? = some x := ⟨_, List.getElem?_eq_getElem (by omega)⟩
    obtain ⟨y, ey⟩ : ∃ y, xs[k]? = some y := ⟨_, List.getElem?_eq_getElem (by omega)⟩
    have e1 : l ++ [(x, y)] = l0 ++ nbs xs k := by
      have h := nbs_succ ex (by rw [show k - 1 + 1 = k by omega]; exact ey)
      rw [show k - 1 + 1 = k by omega] at h
      rw [hl, h, List.append_assoc]
    rw [ahI_step ans l ex ey]
    split
    · refine ⟨by show k ≤ _; omega, ?_⟩
      show l ++ [(x, y)] = l0 ++ nbs xs (min k (xs.length - 1))
      rw [show min k (xs.length - 1) = k by omega]
      exact e1
    · exact ahI_spec ans xs n (k + 1) (l ++ [(x, y)]) l0 (by omega) (by omega) (by rw [show k + 1 - 1 = k by omega]; exact e1)
theorem ahd_spec (ans : Ans α) (xs : List α) (l : List (α × α)) : (ahd ans xs l).1 ≤ xs.length ∧ (ahd ans xs l).2 = l ++ nbs xs (min (ahd ans xs l).1 (xs.length - 1)) := by
  unfold ahd
  by_cases h : 1 ≤ xs.length
  · exact ahI_spec ans xs (xs.length - 1) 1 l l (Nat.le_refl _) (by omega) (by simp [nbs])
  · have e : xs.length = 0 := by omega
    rw [e, ahI]
    refine ⟨by simp [e], ?_⟩
    simp [nbs, e]
theorem nbs_len (xs : List α) (k : Nat) : (nbs xs k).length ≤ xs.length - 1 := by
  unfold nbs
  rw [List.length_take, List.length_zip, List.length_drop]
  omega
theorem nbs_mem {xs : List α} {k : Nat} {z : α × α} (h : z ∈ nbs xs k) : z.1 ∈ xs ∧ z.2 ∈ xs := by
  unfold nbs at h
  have h1 := List.of_mem_zip (a := z.1) (b := z.2) (List.mem_of_mem_take h)
  exact ⟨h1.1, List.mem_of_mem_drop h1.2⟩
theorem ahd_cnt (ans : Ans α) (xs : List α) (l : List (α × α)) : (ahd ans xs l).2.length ≤ l.length + (xs.length - 1) := by
  rw [(ahd_spec ans xs l).2, List.length_append]
  have := nbs_len xs (min (ahd ans xs l).1 (xs.length - 1))
  omega
/-- the law's own look -/
def lookA (key : α → Int) (xs : List α) : Nat → Nat → Nat
  | 0, k => k
  | n + 1, k => match xs[k - 1]?, xs[k]? with
    | some x, some y => if key x ≤ key y then lookA key xs n (k + 1) else k
    | _, _ => k
theorem ahI_look {ans : Ans α} {key : α → Int} (A : KeyA ans key) (xs : List α) : ∀ (n k : Nat) (l : List (α × α)), 1 ≤ k → n + k = xs.length → (ahI ans xs n k l).1 = min (lookA key xs n k) xs.length
  | 0, k, l, hk, hn => by
    rw [ahI, lookA]
    show xs.length = _
    omega
  | n + 1, k, l, hk, hn => by
    obtain ⟨x, ex⟩ : ∃ x, xs[k - 1]? = some x := ⟨_, List.getElem?_eq_getElem (by omega)⟩
    obtain ⟨y, ey⟩ : ∃ y, xs[k]? = some y := ⟨_, List.getElem?_eq_getElem (by omega)⟩
    rw [ahI_step ans l ex ey, lookA, ex, ey]
    have h := A.pos l x y
    by_cases q : 0 < ans l x y
    · have hq := h.mp q
      rw [if_pos q]
      show k = min (if key x ≤ key y then lookA key xs n (k + 1) else k) xs.length
      rw [if_neg (by omega)]
      omega
    · have hq : key x ≤ key y := by
        have := fun z => q (h.mpr z)
        omega
      rw [if_neg q]
      show _ = min (if key x ≤ key y then lookA key xs n (k + 1) else k) xs.length
      rw [if_pos hq]
      exact ahI_look A xs n (k + 1) _ (by omega) (by omega)
/-! ### unique -/
def unqS (ans : Ans α) (s : List α × List (α × α)) (e : α) : List α × List (α × α) := match s.1.getLast? with
  | some z => if ans s.2 z e ≠ 0 then (s.1 ++ [e], s.2 ++ [(z, e)]) else (s.1, s.2 ++ [(z, e)])
  | none => s
def unq (ans : Ans α) (xs : List α) (l : List (α × α)) : List α × List (α × α) := (xs.drop 1).foldl (unqS ans) (xs.take 1, l)
/-- by a key alone -/
def unkS (key : α → Int) (s : List α) (e : α) : List α := match s.getLast? with
  | some z => if key z ≠ key e then s ++ [e] else s
  | none => s
def unk (key : α → Int) (xs : List α) : List α := (xs.drop 1).foldl (unkS key) (xs.take 1)
theorem unqS_step (ans : Ans α) {s : List α × List (α × α)} {z : α} (e : α) (h : s.1.getLast? = some z) : unqS ans s e = if ans s.2 z e ≠ 0 then (s.1 ++ [e], s.2 ++ [(z, e)]) else (s.1, s.2 ++ [(z, e)]) := by
  unfold unqS
  rw [h]
theorem unqS_ne (ans : Ans α) {s : List α × List (α × α)} (e : α) (h : s.1 ≠ []) : (unqS ans s e).1 ≠ [] ∧ (unqS ans s e).2.length = s.2.length + 1 ∧ (unqS ans s e).1.length ≤ s.1.length + 1 ∧ ∃ z, z ∈ s.1 ∧ (unqS ans s e).2 = s.2 ++ [(z, e)] := by
  obtain ⟨z, hz⟩ : ∃ z, s.1.getLast? = some z := ⟨_, List.getLast?_eq_some_getLast h⟩
  rw [unqS_step ans e hz]
  have hm := List.mem_of_getLast? hz
  split
  · exact ⟨by simp, by simp, by simp, z, hm, rfl⟩
  · exact ⟨h, by simp, by simp, z, hm, rfl⟩
theorem unqS_mem (ans : Ans α) {s : List α × List (α × α)} {e z : α} (h : z ∈ (unqS ans s e).1) : z ∈ s.1 ∨ z = e := by
  unfold unqS at h
  split at h
  · split at h
    · rcases List.mem_append.mp h with q | q
      · exact .inl q
      · exact .inr (List.mem_singleton.mp q)
    · exact .inl h
  · exact .inl h
theorem unq_cnt (ans : Ans α) (xs : List α) (l : List (α × α)) : (unq ans xs l).2.length = l.length + (xs.length - 1) := by
  unfold unq
  cases xs with
  | nil => simp
  | cons x xs =>
    have : ∀ (ys : List α) (s : List α × List (α × α)), s.1 ≠ [] → (ys.foldl (unqS ans) s).2.length = s.2.length + ys.length := by
      intro ys
      induction ys with
      | nil => intro s _; rfl
      | cons y ys ih =>
        intro s hs
        obtain ⟨h1, h2, _⟩ := unqS_ne ans y hs
        rw [List.foldl_cons, ih _ h1, h2, List.length_cons]
        omega
    have h := this xs ([x], l) (by simp)
    simpa using h
theorem unq_unk {ans : Ans α} {key : α → Int} (A : KeyA ans key) (xs : List α) (l : List (α × α)) : (unq ans xs l).1 = unk key xs := by
  unfold unq unk
  have : ∀ (ys : List α) (s : List α × List (α × α)), (ys.foldl (unqS ans) s).1 = ys.foldl (unkS key) s.1 := by
    intro ys
    induction ys with
    | nil => intro s; rfl
    | cons y ys ih =>
      intro s
      rw [List.foldl_cons, List.foldl_cons, ih]
      congr 1
      unfold unqS unkS
      cases hz : s.1.getLast? with
      | none => rfl
      | some z =>
        show (if ans s.2 z y ≠ 0 then (s.1 ++ [y], s.2 ++ [(z, y)]) else (s.1, s.2 ++ [(z, y)])).1 = if key z ≠ key y then s.1 ++ [y] else s.1
        by_cases q : ans s.2 z y = 0
        · rw [if_neg (not_not_intro q), if_neg (not_not_intro ((A.eq _ _ _).mp q))]
        · rw [if_pos q, if_pos fun k => q ((A.eq _ _ _).mpr k)]
  exact this _ _
/-! ### the search -/
def bsr (p : Int → Bool) (ans : Ans α) (xs : List α) (key : α) : Nat → Nat → Nat → List (α × α) → Nat × List (α × α)
  | 0, low, _, l => (low, l)
  | f + 1, low, high, l => if low < high then (match xs[(low + high) / 2]? with
      | some x => if p (ans l x key) then bsr p ans xs key f ((low + high) / 2 + 1) high (l ++ [(x, key)]) else bsr p ans xs key f low ((low + high) / 2) (l ++ [(x, key)])
      | none => (low, l)) else (low, l)
theorem bsr_done (p : Int → Bool) (ans : Ans α) (xs : List α) (key : α) (f : Nat) {low high : Nat} (l : List (α × α)) (h : ¬ low < high) : bsr p ans xs key f low high l = (low, l) := by
  cases f with
  | zero => rw [bsr]
  | succ f => rw [bsr, if_neg h]
theorem bsr_step (p : Int → Bool) (ans : Ans α) {xs : List α} {key : α} {f low high : Nat} {x : α} (l : List (α × α)) (h : low < high) (ex : xs[(low + high) / 2]? = some x) :
    bsr p ans xs key (f + 1) low high l = if p (ans l x key) then bsr p ans xs key f ((low + high) / 2 + 1) high (l ++ [(x, key)]) else bsr p ans xs key f low ((low + high) / 2) (l ++ [(x, key)]) := by
  rw [bsr, if_pos h, ex]
theorem bsr_spec (p : Int → Bool) (ans : Ans α) (xs : List α) (key : α) : ∀ (f low high : Nat) (l : List (α × α)), low ≤ high → high ≤ xs.length → high - low ≤ f →
    low ≤ (bsr p ans xs key f low high l).1 ∧ (bsr p ans xs key f low high l).1 ≤ high ∧ l.length ≤ (bsr p ans xs key f low high l).2.length ∧ (bsr p ans xs key f low high l).2.length ≤ l.length + clog (high - low + 1) ∧ Grew (fun z => z.1 ∈ xs ∧ z.2 = key) l (bsr p ans xs key f low high l).2
  | 0, low, high, l, h1, h2, h3 => by
    rw [bsr]
    exact ⟨Nat.le_refl _, h1, Nat.le_refl _, Nat.le_add_right _ _, .refl _ _⟩
  | f + 1, low, high, l, h1, h2, h3 => by
    by_cases h : low < high
    · obtain ⟨x, ex⟩ : ∃ x, xs[(low + high) / 2]? = some x := ⟨_, List.getElem?_eq_getElem (by omega)⟩
      have g : Grew (fun z => z.1 ∈ xs ∧ z.2 = key) l (l ++ [(x, key)]) := .one ⟨List.mem_of_getElem? ex, rfl⟩
      have ec : clog (high - low + 1) = clog ((high - low) / 2 + 1) + 1 := by
        rw [clog_half (by omega)]
        congr 2
        omega
      rw [bsr_step p ans l h ex]
      split
      · obtain ⟨i1, i2, i3, i4, i5⟩ := bsr_spec p ans xs key f ((low + high) / 2 + 1) high (l ++ [(x, key)]) (by omega) h2 (by omega)
        rw [List.length_append, List.length_singleton] at i3 i4
        have m := clog_mono (show high - ((low + high) / 2 + 1) + 1 ≤ (high - low) / 2 + 1 by omega)
        exact ⟨by omega, i2, by omega, by omega, g.trans i5⟩
      · obtain ⟨i1, i2, i3, i4, i5⟩ := bsr_spec p ans xs key f low ((low + high) / 2) (l ++ [(x, key)]) (by omega) (by omega) (by omega)
        rw [List.length_append, List.length_singleton] at i3 i4
        have m := clog_mono (show (low + high) / 2 - low + 1 ≤ (high - low) / 2 + 1 by omega)
        exact ⟨i1, by omega, by omega, by omega, g.trans i5⟩
    · rw [bsr_done p ans xs key _ l h]
      exact ⟨Nat.le_refl _, h1, Nat.le_refl _, Nat.le_add_right _ _, .refl _ _⟩
/-- where all answers ahead of a place are yes and all others no, the search finds it -/
theorem bsr_find (p : Int → Bool) (ans : Ans α) (xs : List α) (key : α) (c : Nat) (hc : c ≤ xs.length) (h : ∀ l i x, xs[i]? = some x → (p (ans l x key) = true ↔ i < c)) :
    ∀ (f low high : Nat) (l : List (α × α)), low ≤ c → c ≤ high → high ≤ xs.length → high - low ≤ f → (bsr p ans xs key f low high l).1 = c
  | 0, low, high, l, h1, h2, h3, h4 => by
    rw [bsr]
    show low = c
    omega
  | f + 1, low, high, l, h1, h2, h3, h4 => by
    by_cases q : low < high
    · obtain ⟨x, ex⟩ : ∃ x, xs[(low + high) / 2]? = some x := ⟨_, List.getElem?_eq_getElem (by omega)⟩
      rw [bsr_step p ans l q ex]
      have hx := h l _ x ex
      split
      · rename_i y
        have := hx.mp y
        exact bsr_find p ans xs key c hc h f _ high _ (by omega) h2 h3 (by omega)
      · rename_i y
        have : ¬ (low + high) / 2 < c := fun z => y (hx.mpr z)
        exact bsr_find p ans xs key c hc h f low _ _ h1 (by omega) (by omega) (by omega)
    · rw [bsr_done p ans xs key _ l q]
      show low = c
      omega
/-- of a row in order: as many as lie below -/
theorem cut_place {key : α → Int} {xs : List α} (hs : Srt key xs) (p : Int → Bool) (hp : ∀ a b : Int, a ≤ b → p b = true → p a = true) : ∀ i x, xs[i]? = some x → (p (key x) = true ↔ i < (xs.filter fun x => p (key x)).length) := by
  induction xs with
  | nil => intro i x h; simp at h
  | cons y ys ih =>
    obtain ⟨h1, h2⟩ := List.pairwise_cons.mp hs
    have ih := ih h2
    intro i x hx
    by_cases q : p (key y) = true
    · rw [List.filter_cons, if_pos q, List.length_cons]
      cases i with
      | zero =>
        simp at hx
        subst hx
        simp [q]
      | succ i =>
        have := ih i x (by simpa using hx)
        rw [this]
        omega
    · have hno : (ys.filter fun x => p (key x)) = [] := by
        rw [List.filter_eq_nil_iff]
        intro z hz hpz
        exact q (hp _ _ (h1 z hz) hpz)
      rw [List.filter_cons, if_neg q, hno]
      simp only [List.length_nil, Nat.not_lt_zero, iff_false]
      intro hpx
      have hm := List.mem_of_getElem? hx
      rcases List.mem_cons.mp hm with e | e
      · rw [e] at hpx
        exact q hpx
      · exact q (hp _ _ (h1 x e) hpx)
end
end Mir

/-! rising: the longest rising row of places, by piles. -/
namespace Mir
section
variable {α : Type} {key : α → Int}
/-- the greatest of a row, 0 of none -/
def mxn : List Nat → Nat
  | [] => 0
  | x :: xs => max x (mxn xs)
theorem mxn_ge {xs : List Nat} {x : Nat} (h : x ∈ xs) : x ≤ mxn xs := by
  induction xs with
  | nil => cases h
  | cons y ys ih =>
    rw [mxn]
    rcases List.mem_cons.mp h with q | q
    · rw [q]; omega
    · have := ih q; omega
theorem mxn_le {xs : List Nat} {c : Nat} (h : ∀ x ∈ xs, x ≤ c) : mxn xs ≤ c := by
  induction xs with
  | nil => exact Nat.zero_le _
  | cons y ys ih =>
    rw [mxn]
    have h1 := h y List.mem_cons_self
    have h2 := ih fun x hx => h x (List.mem_cons_of_mem _ hx)
    omega
theorem mxn_eq {xs : List Nat} {c : Nat} (h : ∀ x ∈ xs, x ≤ c) (hc : c = 0 ∨ c ∈ xs) : mxn xs = c := by
  have h1 := mxn_le h
  rcases hc with q | q
  · omega
  · have := mxn_ge q; omega
/-- the law's own table: each element and how long a rising row ends there -/
def stepM (key : α → Int) (m : List (α × Nat)) (x : α) : List (α × Nat) := m ++ [(x, 1 + mxn ((m.filter fun p => decide (key p.1 < key x)).map (·.2)))]
def mdl (key : α → Int) (xs : List α) : List (α × Nat) := xs.foldl (stepM key) []
def longest (key : α → Int) (xs : List α) : Nat := mxn ((mdl key xs).map (·.2))
theorem mdl_snoc (xs : List α) (x : α) : mdl key (xs ++ [x]) = stepM key (mdl key xs) x := by
  unfold mdl
  rw [List.foldl_append]
  rfl
theorem mdl_map (xs : List α) : (mdl key xs).map (·.1) = xs := by
  have a : ∀ (ys : List α) (m : List (α × Nat)), (ys.foldl (stepM key) m).map (·.1) = m.map (·.1) ++ ys := by
    intro ys
    induction ys with
    | nil => intro m; simp
    | cons y ys ih =>
      intro m
      rw [List.foldl_cons, ih]
      unfold stepM
      simp
  have := a xs []
  simpa [mdl] using this
theorem mdl_len (xs : List α) : (mdl key xs).length = xs.length := by
  have h := congrArg List.length (mdl_map (key := key) xs)
  simpa using h
theorem mdl_el {xs : List α} {j : Nat} {p : α × Nat} (h : (mdl key xs)[j]? = some p) : xs[j]? = some p.1 := by
  have e := mdl_map (key := key) xs
  rw [← e, List.getElem?_map, h]
  rfl
/-- what the piles know, by a key; m: the table so far -/
structure Pat (key : α → Int) (m : List (α × Nat)) (tails : List Nat) (before : List Int) : Prop where
  cls : ∀ (p t : Nat), tails[p]? = some t → ∃ x, m[t]? = some (x, p + 1)
  top : ∀ (j : Nat) (x : α) (c : Nat), m[j]? = some (x, c) → 1 ≤ c ∧ c ≤ tails.length ∧ ∀ (t : Nat) (y : α) (c' : Nat), tails[c - 1]? = some t → m[t]? = some (y, c') → key y ≤ key x
  inc : ∀ (p q t u : Nat) (x y : α) (c d : Nat), p < q → tails[p]? = some t → tails[q]? = some u → m[t]? = some (x, c) → m[u]? = some (y, d) → key x < key y
  bef : ∀ (j : Nat) (x : α) (c : Nat), m[j]? = some (x, c) → (c = 1 → before[j]? = some (-1)) ∧ (2 ≤ c → ∃ (i : Nat) (y : α), before[j]? = some (i : Int) ∧ i < j ∧ m[i]? = some (y, c - 1) ∧ key y < key x)
theorem Pat.nil : Pat key ([] : List (α × Nat)) [] [] := ⟨fun p t h => by simp at h, fun j x c h => by simp at h, fun p q t u x y c d _ h => by simp at h, fun j x c h => by simp at h⟩
theorem get_snoc {β : Type} {m : List β} {z p : β} {j : Nat} (h : (m ++ [z])[j]? = some p) : m[j]? = some p ∨ (j = m.length ∧ p = z) := by
  rw [List.getElem?_append] at h
  split at h
  · exact .inl h
  · next q =>
    have e : j - m.length = 0 := by
      rcases Nat.eq_zero_or_pos (j - m.length) with z | z
      · exact z
      · rw [List.getElem?_eq_none (by rw [List.length_singleton]; exact z)] at h
        cases h
    rw [e] at h
    simp at h
    exact .inr ⟨by omega, h.symm⟩
theorem get_left {β : Type} {m r : List β} {p : β} {j : Nat} (h : m[j]? = some p) : (m ++ r)[j]? = some p := by
  rw [List.getElem?_append_left (List.getElem?_eq_some_iff.mp h).1]
  exact h
/-- the piles with k put at low -/
def putP (tails : List Nat) (low k : Nat) : List Nat := tails.take low ++ [k] ++ tails.drop (low + 1)
theorem putP_get {tails : List Nat} {low k p t : Nat} (hl : low ≤ tails.length) (h : (putP tails low k)[p]? = some t) : (p = low ∧ t = k) ∨ (p ≠ low ∧ tails[p]? = some t) := by
  unfold putP at h
  have lt : (tails.take low).length = low := by rw [List.length_take]; omega
  rw [List.append_assoc, List.getElem?_append] at h
  split at h
  · next q =>
    rw [lt] at q
    rw [List.getElem?_take, if_pos q] at h
    exact .inr ⟨by omega, h⟩
  · next q =>
    rw [lt] at q h
    by_cases e : p = low
    · rw [e, Nat.sub_self] at h
      simp at h
      exact .inl ⟨e, h.symm⟩
    · obtain ⟨d, hd⟩ : ∃ d, p - low = d + 1 := ⟨p - low - 1, by omega⟩
      rw [hd] at h
      simp at h
      have e2 : low + 1 + d = p := by omega
      rw [e2] at h
      exact .inr ⟨e, h⟩
theorem putP_len {tails : List Nat} {low k : Nat} (hl : low ≤ tails.length) : (putP tails low k).length = max tails.length (low + 1) := by
  unfold putP
  rw [List.length_append, List.length_append, List.length_take, List.length_drop, List.length_singleton]
  omega
theorem putP_at {tails : List Nat} {low k : Nat} (hl : low ≤ tails.length) : (putP tails low k)[low]? = some k := by
  unfold putP
  have lt : (tails.take low).length = low := by rw [List.length_take]; omega
  rw [List.append_assoc, List.getElem?_append_right (by omega), lt, Nat.sub_self]
  rfl
/-- one element more: low piles lie below it -/
theorem Pat.step {m : List (α × Nat)} {tails : List Nat} {before : List Int} (P : Pat key m tails before) (x : α) {low : Nat} {b : Int} (hl : low ≤ tails.length)
    (hlow : ∀ (p t : Nat) (y : α) (c : Nat), tails[p]? = some t → m[t]? = some (y, c) → (key y < key x ↔ p < low))
    (hb0 : low = 0 → b = -1) (hb1 : ∀ t, 0 < low → tails[low - 1]? = some t → b = (t : Int)) (hbl : before.length = m.length) :
    Pat key (stepM key m x) (putP tails low m.length) (before ++ [b]) := by
  have mt : ∀ (p t : Nat), tails[p]? = some t → ∃ y, m[t]? = some (y, p + 1) ∧ t < m.length := fun p t h => by
    obtain ⟨y, hy⟩ := P.cls p t h
    exact ⟨y, hy, (List.getElem?_eq_some_iff.mp hy).1⟩
  have em : stepM key m x = m ++ [(x, low + 1)] := by
    unfold stepM
    have e : mxn ((m.filter fun p => decide (key p.1 < key x)).map (·.2)) = low := by
      refine mxn_eq (fun c hc => ?_) ?_
      · obtain ⟨⟨y, c'⟩, hp, rfl⟩ := List.mem_map.mp hc
        obtain ⟨hp1, hp2⟩ := List.mem_filter.mp hp
        have hp2 : key y < key x := of_decide_eq_true hp2
        obtain ⟨j, hj⟩ := List.mem_iff_getElem?.mp hp1
        obtain ⟨h1, h2, h3⟩ := P.top j y c' hj
        obtain ⟨t, ht⟩ : ∃ t, tails[c' - 1]? = some t := ⟨_, List.getElem?_eq_getElem (by omega)⟩
        obtain ⟨z, hz, _⟩ := mt _ t ht
        have h4 := h3 t z _ ht hz
        have h5 := (hlow _ t z _ ht hz).mp (by omega)
        show c' ≤ low
        omega
      · rcases Nat.eq_zero_or_pos low with z | z
        · exact .inl z
        · obtain ⟨t, ht⟩ : ∃ t, tails[low - 1]? = some t := ⟨_, List.getElem?_eq_getElem (by omega)⟩
          obtain ⟨y, hy, _⟩ := mt _ t ht
          have h5 := (hlow _ t y _ ht hy).mpr (by omega)
          refine .inr (List.mem_map.mpr ⟨(y, low - 1 + 1), List.mem_filter.mpr ⟨List.mem_of_getElem? hy, decide_eq_true h5⟩, by show low - 1 + 1 = low; omega⟩)
    rw [e, Nat.add_comm]
  rw [em]
  have new : (m ++ [(x, low + 1)])[m.length]? = some (x, low + 1) := by rw [List.getElem?_append_right (Nat.le_refl _), Nat.sub_self]; rfl
  have old : ∀ {t : Nat} {p : α × Nat}, t < m.length → (m ++ [(x, low + 1)])[t]? = some p → m[t]? = some p := fun {t p} ht h => by
    rwa [List.getElem?_append_left ht] at h
  -- the key at a pile of the new ones
  have hk : ∀ (p t : Nat) (y : α) (c : Nat), (putP tails low m.length)[p]? = some t → (m ++ [(x, low + 1)])[t]? = some (y, c) → (p = low ∧ y = x) ∨ (p ≠ low ∧ tails[p]? = some t ∧ m[t]? = some (y, c)) := fun p t y c h1 h2 => by
    rcases putP_get hl h1 with ⟨q1, q2⟩ | ⟨q1, q2⟩
    · rw [q2, new] at h2
      injection h2 with h2
      injection h2 with h2 _
      exact .inl ⟨q1, h2.symm⟩
    · obtain ⟨_, _, ht⟩ := mt p t q2
      exact .inr ⟨q1, q2, old ht h2⟩
  refine ⟨fun p t h => ?_, fun j y c h => ?_, fun p q t u y z c d hpq h1 h2 h3 h4 => ?_, fun j y c h => ?_⟩
  · rcases putP_get hl h with ⟨q1, q2⟩ | ⟨q1, q2⟩
    · rw [q1, q2]
      exact ⟨x, new⟩
    · obtain ⟨y, hy, _⟩ := mt p t q2
      exact ⟨y, get_left hy⟩
  · rw [putP_len hl]
    rcases get_snoc h with h | ⟨h, hp⟩
    · obtain ⟨h1, h2, h3⟩ := P.top j y c h
      refine ⟨h1, by omega, fun t z c' ht hz => ?_⟩
      rcases hk _ t z c' ht hz with ⟨q1, q2⟩ | ⟨q1, q2, q3⟩
      · obtain ⟨u, hu⟩ : ∃ u, tails[c - 1]? = some u := ⟨_, List.getElem?_eq_getElem (by omega)⟩
        obtain ⟨v, hv, _⟩ := mt _ u hu
        have h4 := h3 u v _ hu hv
        have h5 : ¬ key v < key x := fun q => by
          have := (hlow _ u v _ hu hv).mp q
          omega
        rw [q2]
        omega
      · exact h3 t z c' q2 q3
    · injection hp with hp1 hp2
      subst hp1
      refine ⟨by omega, by omega, fun t z c' ht hz => ?_⟩
      rcases hk _ t z c' ht hz with ⟨q1, q2⟩ | ⟨q1, q2, q3⟩
      · rw [q2]; exact Int.le_refl _
      · exact absurd (by omega) q1
  · rcases hk p t y c h1 h3 with ⟨a1, a2⟩ | ⟨a1, a2, a3⟩
    · rcases hk q u z d h2 h4 with ⟨b1, b2⟩ | ⟨b1, b2, b3⟩
      · omega
      · obtain ⟨u', hu'⟩ : ∃ u', tails[low]? = some u' := ⟨_, List.getElem?_eq_getElem (by have := (List.getElem?_eq_some_iff.mp b2).1; omega)⟩
        obtain ⟨v, hv, _⟩ := mt _ u' hu'
        have h5 : ¬ key v < key x := fun r => by
          have := (hlow _ u' v _ hu' hv).mp r
          omega
        have h6 := P.inc low q u' u v z _ d (by omega) hu' b2 hv b3
        rw [a2]
        omega
    · rcases hk q u z d h2 h4 with ⟨b1, b2⟩ | ⟨b1, b2, b3⟩
      · rw [b2]
        exact (hlow p t y c a2 a3).mpr (by omega)
      · exact P.inc p q t u y z c d hpq a2 b2 a3 b3
  · rcases get_snoc h with h | ⟨hj, hp⟩
    · obtain ⟨h1, h2⟩ := P.bef j y c h
      refine ⟨fun e => get_left (h1 e), fun e => ?_⟩
      obtain ⟨i, z, e1, e2, e3, e4⟩ := h2 e
      exact ⟨i, z, get_left e1, e2, get_left e3, e4⟩
    · injection hp with hp1 hp2
      subst hp1
      have bl : (before ++ [b])[j]? = some b := by rw [hj, ← hbl, List.getElem?_append_right (Nat.le_refl _), Nat.sub_self]; rfl
      refine ⟨fun e => by rw [bl, hb0 (by omega)], fun e => ?_⟩
      obtain ⟨t, ht⟩ : ∃ t, tails[low - 1]? = some t := ⟨_, List.getElem?_eq_getElem (by omega)⟩
      obtain ⟨z, hz, hzl⟩ := mt _ t ht
      refine ⟨t, z, by rw [bl, hb1 t (by omega) ht], by omega, ?_, (hlow _ t z _ ht hz).mpr (by omega)⟩
      rw [get_left hz, show low - 1 + 1 = c - 1 by omega]
theorem Pat.longest {xs : List α} {tails : List Nat} {before : List Int} (P : Pat key (mdl key xs) tails before) : tails.length = longest key xs := by
  unfold Mir.longest
  refine (mxn_eq (fun c hc => ?_) ?_).symm
  · obtain ⟨⟨y, c'⟩, hp, rfl⟩ := List.mem_map.mp hc
    obtain ⟨j, hj⟩ := List.mem_iff_getElem?.mp hp
    exact (P.top j y c' hj).2.1
  · rcases Nat.eq_zero_or_pos tails.length with z | z
    · exact .inl z
    · obtain ⟨t, ht⟩ : ∃ t, tails[tails.length - 1]? = some t := ⟨_, List.getElem?_eq_getElem (by omega)⟩
      obtain ⟨x, hx⟩ := P.cls _ t ht
      exact .inr (List.mem_map.mpr ⟨_, List.mem_of_getElem? hx, by show tails.length - 1 + 1 = tails.length; omega⟩)
end
end Mir

/-! list(reversed(a list)) -/
namespace Ord
open PySem PySem.Spec PyProof.Rows L2 RT
section
variable {prog : Program} {w : World} {A : Around} {E : Value → Shared → Prop} {s : Shared}
theorem lst_rev {it l : Addr} {items : Array Value} {Q : Value → Shared → Prop} (hh : A.handled = none) (hit : s.heap.IsRevIter it l ((items.size : Int) - 1)) (hl : s.heap.IsList l items) (hne : l ≠ it) (hn : items.size ≤ sizeLine)
    (hQ : ∀ (h' : Heap) (tk : Nat) (acc : Array Value) (c : Nat), (∀ b o, b ≠ it → s.heap.get? b = some o → h'.get? b = some o) → h'.get? s.heap.objs.size = some { cls := .type "list", dict := none, data := .seq acc c, slots := #[] } →
      ItemsOf (fun i v => items[items.size - 1 - i]? = some v) acc items.size → Q (.ref s.heap.objs.size) { s with heap := h', toks := tk }) :
    wpAny (model prog w) A (call (.type "list") [.ref it]) Q E s := by
  have W := (Walks.listRev (prog := prog) (w := w) (A := A.in1.in1) hh it l hne items).toS
  obtain ⟨oi, hoi, _⟩ := id hit
  obtain ⟨ol, hol, _⟩ := id hl
  have hSi : s.heap.objs.size ≠ it := Nat.ne_of_gt (Heap.lt_size hoi)
  have hSl : s.heap.objs.size ≠ l := Nat.ne_of_gt (Heap.lt_size hol)
  have hSf : s.heap.objs.size ∉ [it, l] := by simp only [List.mem_cons, List.not_mem_nil, or_false, not_or]; exact ⟨hSi, hSl⟩
  refine callType_codes (Q₁ := fun obj s₁ => obj = .ref s.heap.objs.size ∧ s₁ = { s with heap := s.heap.push { cls := .type "list", data := .seq #[] } }) F.called_list (F.typeCall_list_1 _) F.entry_list_init
    (code_list_new _ ⟨rfl, rfl⟩) fun obj s₁ h₁ => ?_
  obtain ⟨rfl, rfl⟩ := h₁
  have hS : (s.heap.push { cls := .type "list", data := .seq #[] }).get? s.heap.objs.size = some { cls := .type "list", data := .seq #[] } := Heap.get?_push_size _ rfl
  refine ⟨⟨_, hS, rfl⟩, F.args_list_init_2 _ _, ?_⟩
  show wpAny _ A.in1.in1 (do let old ← Builtin.List.listItems (.ref s.heap.objs.size); Builtin.List.listUpdate (.ref s.heap.objs.size) (fun _ => #[]); letGo old.toList.reverse; Builtin.List.listExtendWith (.ref s.heap.objs.size) (.ref it) .none) _ _ _
  refine wpAny_bind ?_
  unfold Builtin.List.listItems
  refine wpAny_bind (wpAny_seqItems hS rfl (wpAny_pure ?_))
  show wpAny _ A.in1.in1 (updateSeq s.heap.objs.size (fun _ => #[]) >>= fun _ => letGo (#[] : Array Value).toList.reverse >>= fun _ => Builtin.List.listExtendWith (.ref s.heap.objs.size) (.ref it) .none) _ _ _
  refine wpAny_bind (wpAny_updateSeq hS rfl ?_)
  have hS₂ := Heap.get?_update_self (Obj.mapSeq (fun _ => (#[] : Array Value))) hS rfl
  have oth : ∀ b o, b ≠ s.heap.objs.size → s.heap.get? b = some o → ((s.heap.push { cls := .type "list", data := .seq #[] }).update s.heap.objs.size (Obj.mapSeq (fun _ => (#[] : Array Value)))).get? b = some o :=
    fun b o hb e => (Heap.get?_update_other _ _ (Ne.symm hb)).trans (Heap.get?_push_of_some _ e)
  have oth2 : ∀ b o, s.heap.get? b = some o → ((s.heap.push { cls := .type "list", data := .seq #[] }).update s.heap.objs.size (Obj.mapSeq (fun _ => (#[] : Array Value)))).get? b = some o :=
    fun b o e => oth b o (Nat.ne_of_lt (Heap.lt_size e)) e
  refine wpAny_bind (wpAny_letGo ?_)
  generalize hG : (s.heap.push { cls := .type "list", data := .seq #[] }).update s.heap.objs.size (Obj.mapSeq (fun _ => (#[] : Array Value))) = hp at hS₂ oth oth2 ⊢
  have hit1 : hp.IsRevIter it l ((items.size : Int) - 1) := hit.at fun o e => oth2 _ _ e
  have hl1 : hp.IsList l items := hl.at fun o e => oth2 _ _ e
  have hT : ({ s with heap := hp } : Shared).TypeIs (.ref it) "list_reverseiterator" := Heap.IsRevIter.typeIs (s := { s with heap := hp }) hit1
  have h1 : Builtin.List.listSameRef (.ref s.heap.objs.size) (.ref it) = false := by simp [Builtin.List.listSameRef, hSi]
  unfold Builtin.List.listExtendWith
  refine wpAny_bind (wpAny_typeOf hT ?_)
  rw [if_neg (by rw [h1]; decide)]
  refine wpAny_bind (wpAny_pyIter_revIter (s := { s with heap := hp }) hit1 ?_)
  refine wpAny_bind (wpAny_holding ?_)
  unfold Builtin.List.listLengthHint
  refine wpAny_bind (wpAny_specialOf hT nolen_lri ?_)
  show wpAny _ A.in1.in1 (specialOf (Value.ref it) (Str.ofString "__length_hint__") >>= _) _ _ _
  refine wpAny_bind (wpAny_specialOf hT hint_lri ?_)
  generalize hid : ("list_reverseiterator.__length_hint__" : String) = id0
  wp_delta
  rw [show splitId id0 = some ("list_reverseiterator", "__length_hint__") from by subst hid; decide +kernel]
  subst hid
  refine wpAny_bind (wpAny_isInstance (b := true) hT (by rw [isSubtype_type]; kernel_rfl) ?_)
  refine wpAny_pure ?_
  rw [if_neg (by decide)]
  have e0 : ((items.size : Nat) : Int) - 1 - ((0 : Nat) : Int) = (items.size : Int) - 1 := by omega
  refine wpAny_pure ⟨plainId_quiet F.plain_extend_loop _, codeAny_extend_loopS W hn _ hSf _ items.size 0 _ _ _ rfl (Nat.zero_le _) ⟨Nat.zero_le _, by rw [e0]; exact hit1, hl1⟩ hS₂ (ItemsOf.nil _) fun s' acc' c' hm hS' hacc => ?_⟩
  refine ⟨rfl, ?_⟩
  rw [Moved.eq_with hm]
  refine hQ s'.heap s'.toks acc' c' (fun b o hb e => hm.heap b o (fun hmem => ?_) (oth2 b o e)) hS' hacc
  rcases List.mem_cons.mp hmem with e' | hmem
  · exact absurd (Heap.lt_size e) (by rw [e']; exact Nat.lt_irrefl _)
  · exact hb (List.mem_singleton.mp hmem)
end
def tLstRev (K : PySem.W.Frag) (te : TE) : TE := fun σ H Q => te σ H fun v H1 => ∃ (a : Addr) (xs : List V), v = .ref a ∧ SqL K H1 a xs ∧ ∀ q, H1 q = none → Q (.ref q) (upd H1 q (.lst xs.reverse))
theorem pe_lstRev {X : Cx} {K : PySem.W.Frag} {e : Expr} {te : TE} {p p2 pos pos2 : Pos} (hc : X.calm = true) (hg : Gl X "list") (hm : X.mg "list" = none) (hg2 : Gl X "reversed") (hm2 : X.mg "reversed" = none) (he : PE X e te) (hK : X.K = K := by rfl)
    (hs : starEach [e] X.env = (false, eval e X.env) :: starEach [] X.env := by rfl)
    (hs2 : starEach [.Call (.Name "reversed" p2) [e] [] pos2] X.env = (false, eval (.Call (.Name "reversed" p2) [e] [] pos2) X.env) :: starEach [] X.env := by rfl) :
    PE X (.Call (.Name "list" p) [.Call (.Name "reversed" p2) [e] [] pos2] [] pos) (tLstRev K te) := by
  subst hK
  refine ⟨fun pins s σ H Q I h => ?_⟩
  refine Call_ (ld_blt I hg hm boot_list (PyProof.Rows.callWith_type1 (args_cons (Call_ (ld_blt I hg2 hm2 PyProof.Rows.boot_reversed (PyProof.Rows.callWith_type1 (args_cons (thn (he.run pins s σ H _ I h) fun u s1 ⟨v, H1, I1, r1, q1⟩ => args_nil ?_) hs) hs rfl))) hs2) hs2 rfl))
  obtain ⟨a, xs, ev, hq, q⟩ := q1
  subst ev
  obtain rfl : u = Value.ref a := r1
  obtain ⟨its, rv, p', hz⟩ := I1.list hq
  refine call_reversed_list p'.isList (args_nil ?_)
  have k0 : ∀ b o, s1.heap.get? b = some o → (s1.heap.push (revObj a ((its.toArray.size : Int) - 1))).get? b = some o := fun b o e => Heap.get?_push_of_some _ e
  have I2 : Inv X pins σ H1 { s1 with heap := s1.heap.push (revObj a ((its.toArray.size : Int) - 1)) } := I1.kept (t' := s1.toks) k0
  obtain ⟨f0, f1, f2, f3, f4, f5⟩ := I1.fpOk (H' := H1) (b := s1.heap.objs.size) (Nat.le_refl _) (I1.hok.fresh (Nat.le_refl _))
  have hl := p'.isList
  obtain ⟨ol, hol, _⟩ := id hl
  have hne : a ≠ s1.heap.objs.size := Nat.ne_of_lt (Heap.lt_size hol)
  have hn : its.toArray.size ≤ sizeLine := by rw [List.size_toArray, ← rv.length]; exact hz
  refine lst_rev (s := { s1 with heap := s1.heap.push (revObj a ((its.toArray.size : Int) - 1)) }) (I1.ok.hd hc) ⟨_, Heap.get?_push_size _ rfl, rfl, rfl⟩ (hl.push _) hne hn fun h' tk acc c hk hS hi => ?_
  have hsz : (s1.heap.push (revObj a ((its.toArray.size : Int) - 1))).objs.size = s1.heap.objs.size + 1 := Heap.size_push ..
  rw [hsz] at hS
  have ea : acc.toList.toArray = acc := by simp
  have hS2 : h'.get? (s1.heap.objs.size + 1) = some { cls := .type "list", dict := none, data := .seq acc.toList.toArray c, slots := #[] } := by rw [ea]; exact hS
  have kp : ∀ b o, s1.heap.get? b = some o → h'.get? b = some o := fun b o e => hk b o (Nat.ne_of_lt (Heap.lt_size e)) (k0 b o e)
  have eg : (EP X pins σ Q) (.ref (s1.heap.objs.size + 1)) { s1 with heap := h', toks := tk } := ⟨.ref _, upd H1 (s1.heap.objs.size + 1) (.lst xs.reverse), I1.laid (t' := tk) kp (Nat.le_succ _) (show ObjOk X.prog X.w _ h' _ (.lst xs.reverse) from ⟨by rw [List.length_reverse]; exact hz, acc.toList, c, vals_rev rv hi, hS2⟩), rfl, q _ (I1.hok.fresh (Nat.le_succ _))⟩
  show (EP X pins σ Q) (.ref (s1.heap.push (revObj a ((its.toArray.size : Int) - 1))).objs.size) { s1 with heap := h', toks := tk }
  rw [hsz]
  exact eg
end Ord

set_option pp.deepTerms false
set_option pp.maxSteps 1500
namespace Ord
open PySem PySem.Spec PyProof.Rows L2 LamX
abbrev niV (ts : List Nat) : List V := ts.map fun t => V.int (t : Nat)
section
variable {P : Program} {w : World} {K : PySem.W.Frag} {mg : Str → Option Value} {base : Heap}
/-- the places are a rising row by every key that the order goes by, as long as one can be -/
def RiseOf (O : Orc P w K mg base) (xs : List V) (pl : List Nat) : Prop := ∀ key, Mir.KeyA O.ans key → pl.length = Mir.longest key xs ∧ pl.Pairwise fun i j => ∀ x y, xs[i]? = some x → xs[j]? = some y → key x < key y
def spRising (P : Program) (w : World) (K : PySem.W.Frag) (mg : Str → Option Value) (base : Heap) : Sp := fun vs H Q _ => ∃ (O : Orc P w K mg base) (a : Addr) (xs : List V) (l : Lg), vs = [.ref a, .ref O.f] ∧
  Row K O.q H a xs ∧ O.Log l H ∧ O.All xs H ∧ xs.length ≤ 100 ∧ l.length + xs.length * Mir.clog (xs.length + 1) ≤ 80000 ∧
  ∀ H' p pl l', KB O.q H H' → H p = none → H' p = some (.lst (niV pl)) → O.Log l' H' → l'.length ≤ l.length + xs.length * Mir.clog (xs.length + 1) → (∀ i ∈ pl, i < xs.length) → pl.Pairwise (· < ·) → RiseOf O xs pl → Q (.ref p) H'
def N_rising : List Str := ["row", "order", "tails", "before", "k", "low", "high", "half", "found", "place"]
theorem sc_rising : FnScope ["row", "order", "tails", "before", "k", "low", "high", "half", "found", "place"] ["row", "order"] (defScope st_rising) := ⟨rfl, rfl, rfl, by decide +kernel, rfl, by decide +kernel, by decide +kernel⟩
theorem ok_rising (d_rising : Df K mg "rising" st_rising ["row", "order"]) (mLen : mg "len" = none) (mList : mg "list" = none) (mRange : mg "range" = none) (mReversed : mg "reversed" = none) : FnOk P w K mg base CX0 4 d_rising.f d_rising.fd ["row", "order"] (spRising P w K mg base) := by
  refine d_rising.F.ok sc_rising (fun vs H Q E h => ?_) (fun cdv A outer s H vs Q E hr h => ?_)
  · obtain ⟨O, a, xs, l, rfl, _⟩ := h
    rfl
  · obtain ⟨O, a, xs, l, rfl, hR, hL, dx, hz, hc, k⟩ := h
    have nd := sc_rising.nd
    refine ⟨_, (pss_cons (ps_set (i := 2) nd rfl (Or.inl rfl) (pe_lst pa_nil))
  (pss_cons (ps_set (i := 3) nd rfl (Or.inl rfl) (pe_lst pa_nil))
  (C8.pss_cut (ps_for PassesOwn.never rfl (pi_range1 (by rfl) mRange (pa_cons (pe_len mLen (pv 0)) pa_nil)) (pg_name (i := 4) nd rfl (Or.inl rfl))
    (pss_cons (ps_set (i := 5) nd rfl (Or.inl rfl) pe_int)
  (pss_cons (ps_set (i := 6) nd rfl (Or.inl rfl) (pe_len mLen (pv 2)))
  (C8.pss_cut (ps_while PassesOwn.never (pt_cmpR op_lt (pv 5) (pv 6) (nomark _))
    (pss_cons (ps_set (i := 7) nd rfl (Or.inl rfl) (pe_op op_fdivE (pe_op op_addE (pv 5) (pv 6)) pe_int))
  (pss_one (ps_if (pt_cmpR op_lt (pe_callV O.run (hr.mono (by omega)) (pa_cons (pe_ix ix_list (pv 0) (pe_ix ix_list (pv 2) (pv 7) (fun _ _ => rfl)) (fun _ _ => rfl)) (pa_cons (pe_ix ix_list (pv 0) (pv 4) (fun _ _ => rfl)) pa_nil)) (i := 1)) pe_int (nomark _))
    (pss_one (ps_set (i := 5) nd rfl (Or.inl rfl) (pe_op op_addE (pv 7) pe_int)))
    (pss_one (ps_set (i := 6) nd rfl (Or.inl rfl) (pv 7)))))))
  (pss_cons (ps_expr (pe_bm PySem.F.plainAttrs_list PySem.F.slot_list_append PySem.F.type_list_append mt_append (pv 3) (pa_cons (pe_ix ix_list (pe_op op_cat (pe_lst (pa_cons (pe_un un_neg pe_int) pa_nil)) (pv 2)) (pv 5) (fun _ _ => rfl)) pa_nil)))
  (pss_one (ps_set (i := 2) nd rfl (Or.inl rfl) (pe_op op_cat (pe_op op_cat (pe_slice sl_list (pv 2) po_none (po_some (pv 5))) (pe_lst (pa_cons (pv 4) pa_nil))) (pe_slice sl_list (pv 2) (po_some (pe_op op_addE (pv 5) pe_int)) po_none)))))))))
  (pss_cons (ps_set (i := 8) nd rfl (Or.inl rfl) (pe_lst pa_nil))
  (pss_cons (ps_set (i := 9) nd rfl (Or.inl rfl) (pe_ix ix_list (pe_op op_cat (pe_lst (pa_cons (pe_un un_neg pe_int) pa_nil)) (pv 2)) (pe_un un_neg pe_int) (fun _ _ => rfl)))
  (pss_cons (ps_while PassesOwn.never (pt_cmpR op_ge (pv 9) pe_int (nomark _))
    (pss_cons (ps_expr (pe_bm PySem.F.plainAttrs_list PySem.F.slot_list_append PySem.F.type_list_append mt_append (pv 8) (pa_cons (pv 9) pa_nil)))
  (pss_one (ps_set (i := 9) nd rfl (Or.inl rfl) (pe_ix ix_list (pv 3) (pv 9) (fun _ _ => rfl))))))
  (pss_one (ps_ret (pe_lstRev (K := K) rfl (by rfl) mList (by rfl) mReversed (pv 8)))))))))), ?_⟩
    obtain ⟨C, eC⟩ : ∃ C, C = Mir.clog (xs.length + 1) := ⟨_, rfl⟩
    rw [← eC] at hc k
    refine ⟨Nat.zero_le _, fun p0 n0 => ?_⟩
    refine ⟨Nat.zero_le _, fun pb nb => ?_⟩
    have nbH : H pb = none := upd_none nb
    have pbq : pb ≠ O.q := Orc.nq hL nbH
    have kb0 : KB O.q H (upd (upd H p0 (.lst [])) pb (.lst [])) := (KB.new n0).trans (KB.new nb)
    have hL0 := Orc.new (o := .lst []) (Orc.new (o := .lst []) hL n0) nb
    obtain ⟨Inv, eInv⟩ : ∃ Inv : Nat → L2.St → Hp → Prop, Inv = fun i σ H' => ∃ (pt : Addr) (v4 v5 v6 v7 : Option V) (tails : List Nat) (before : List Int) (l' : Lg), σ = [some (.ref a), some (.ref O.f), some (.ref pt), some (.ref pb), v4, v5, v6, v7, none, none] ∧ KB O.q H H' ∧ H pt = none ∧ pt ≠ pb ∧ H' pt = some (.lst (niV tails)) ∧ H' pb = some (.lst (before.map V.int)) ∧ O.Log l' H' ∧
      l'.length ≤ l.length + i * C ∧ tails.length ≤ i ∧ (∀ t ∈ tails, t < i) ∧ before.length = i ∧ (∀ (j : Nat) (b : Int), before[j]? = some b → b = -1 ∨ ∃ u : Nat, b = (u : Int) ∧ u < j) ∧ ∀ key, Mir.KeyA O.ans key → Mir.Pat key (Mir.mdl key (xs.take i)) tails before := ⟨_, rfl⟩
    refine ⟨Inv xs.length, ?_, fun σ' H1 hM => ?_⟩
    · refine ⟨_, rfl, a, xs, rfl, .inl (hR.kb kb0).1, (xs.length : Int), rfl, by omega, by omega, ?_⟩
      refine for_range (lo := 0) (n := (xs.length : Int).toNat) Inv (by
        rw [eInv]
        exact ⟨p0, none, none, none, none, [], [], l, rfl, kb0, n0, ne_of_none upd_same nb, kn nb upd_same, upd_same, hL0, by omega, Nat.zero_le _, (fun t h => by cases h), rfl, (fun j b h => by simp at h), fun key A => Mir.Pat.nil⟩) ?_ (fun σ H' h => by rwa [Int.toNat_natCast] at h)
      intro i σ H1 hi hI
      rw [eInv] at hI
      obtain ⟨pt, v4, v5, v6, v7, tails, before, l', rfl, kb, npt, ptb, hpt, hpb, hL', hl, htl, htm, hbl, hbm, hP⟩ := hI
      rw [show ((0 : Int) + (i : Nat)) = ((i : Nat) : Int) from Int.zero_add _]
      have hi' : i < xs.length := by omega
      have ptq : pt ≠ O.q := Orc.nq hL npt
      obtain ⟨e, ee⟩ : ∃ e, xs[i]? = some e := ⟨_, List.getElem?_eq_getElem hi'⟩
      have hem : e ∈ xs := List.mem_of_getElem? ee
      have m1 : (i + 1) * C = i * C + C := Nat.succ_mul i C
      have m2 : (i + 1) * C ≤ xs.length * C := Nat.mul_le_mul_right C hi'
      obtain ⟨ts, ets⟩ : ∃ ts : List V, ts = tails.map fun t => (xs[t]?).getD .non := ⟨_, rfl⟩
      have tsl : ts.length = tails.length := by rw [ets, List.length_map]
      have tsg : ∀ (p t : Nat), tails[p]? = some t → ∃ y, ts[p]? = some y ∧ xs[t]? = some y := fun p t h => by
        obtain ⟨y, ey⟩ : ∃ y, xs[t]? = some y := ⟨_, List.getElem?_eq_getElem (by have := htm t (List.mem_of_getElem? h); omega)⟩
        exact ⟨y, by rw [ets, List.getElem?_map, h]; show some ((xs[t]?).getD .non) = _; rw [ey]; rfl, ey⟩
      have tm : ∀ z ∈ ts, z ∈ xs := fun z hz => by
        obtain ⟨j, ej⟩ := List.mem_iff_getElem?.mp hz
        obtain ⟨t, et⟩ : ∃ t, tails[j]? = some t := ⟨_, List.getElem?_eq_getElem (by have := (List.getElem?_eq_some_iff.mp ej).1; omega)⟩
        obtain ⟨y, h1, h2⟩ := tsg j t et
        rw [h1] at ej
        rw [← Option.some.inj ej]
        exact List.mem_of_getElem? h2
      obtain ⟨bs, ebs⟩ : ∃ bs, bs = Mir.bsr (fun i => decide (i < 0)) O.ans ts e ts.length 0 ts.length l' := ⟨_, rfl⟩
      have sp := Mir.bsr_spec (fun i => decide (i < 0)) O.ans ts e ts.length 0 ts.length l' (Nat.zero_le _) (Nat.le_refl _) (by omega)
      rw [← ebs] at sp
      have hSq := (hR.kb kb).1
      refine ⟨_, rfl, pt, niV tails, rfl, .inl (SqL.of hpt), ?_⟩
      -- the search
      refine ⟨fun σ' H' => ∃ (v6 v7 : Option V), σ' = [some (.ref a), some (.ref O.f), some (.ref pt), some (.ref pb), some (.int (i : Nat)), some (.int (bs.1 : Nat)), v6, v7, none, none] ∧ KB O.q H1 H' ∧ O.Log bs.2 H', ?_, fun σ' H2 hM => ?_⟩
      · refine ⟨fun m σ H' => ∃ (low high : Nat) (v7 : Option V) (l2 : Lg), σ = [some (.ref a), some (.ref O.f), some (.ref pt), some (.ref pb), some (.int (i : Nat)), some (.int (low : Nat)), some (.int (high : Nat)), v7, none, none] ∧ m = high - low ∧ low ≤ high ∧ high ≤ ts.length ∧ KB O.q H1 H' ∧ O.Log l2 H' ∧ l2.length + m ≤ l'.length + ts.length ∧
          ∃ f, high - low ≤ f ∧ Mir.bsr (fun i => decide (i < 0)) O.ans ts e ts.length 0 ts.length l' = Mir.bsr (fun i => decide (i < 0)) O.ans ts e f low high l2, ⟨_, 0, ts.length, v7, l', by rw [tsl]; show _ = _; simp [niV], rfl, Nat.zero_le _, Nat.le_refl _, KB.refl _ _, hL', by omega, ts.length, by omega, rfl⟩, ?_⟩
        rintro m σ H' ⟨low, high, v7, l2, rfl, rfl, h1, h2, kb1, hL2, hl2, f, hf, eq⟩
        refine ⟨_, rfl, _, rfl, _, _, rfl, rfl, _, rfl, ?_⟩
        refine iteD (fun hlt => ?_) (fun hlt => ?_)
        · have hlt' : low < high := by omega
          obtain ⟨f', ef⟩ : ∃ f', f = f' + 1 := ⟨f - 1, by omega⟩
          obtain ⟨t, et⟩ : ∃ t, tails[(low + high) / 2]? = some t := ⟨_, List.getElem?_eq_getElem (by omega)⟩
          obtain ⟨y, ey, ey2⟩ := tsg _ t et
          rw [ef, Mir.bsr_step _ O.ans l2 hlt' ey] at eq
          refine ⟨_, fun _ _ h => h, ?_⟩
          have hpt2 := kb1.keep _ _ ptq hpt
          have kbT := kb.trans kb1
          have hS2 := (hR.kb kbT).1
          have ent : (niV tails)[(low + high) / 2]? = some (.int (t : Nat)) := by rw [List.getElem?_map, et]; rfl
          refine ⟨_, rfl, _, rfl, _, _, _, rfl, rfl, rfl, _, _, (((low + high) / 2 : Nat) : Int), rfl, rfl, ⟨by decide, by decide⟩, by show (((low + high) / 2 : Nat) : Int) = ((low : Int) + (high : Int)) / 2; omega, ?_⟩
          refine ⟨rfl, O.isf hL2, _, rfl, _, rfl, _, rfl, pt, niV tails, _, .int (t : Nat), rfl, rfl, SqL.of hpt2, atI_nat ent, a, xs, _, y, rfl, rfl, hS2, atI_nat ey2, _, rfl, _, rfl, a, xs, _, e, rfl, rfl, hS2, atI_nat ee, O.isf hL2, y, e, l2, rfl, hL2, by omega, (dx.tk kbT.tk).get ey2, (dx.tk kbT.tk) e hem, fun H3 kb2 hL3 => ?_⟩
          refine ⟨_, _, rfl, rfl, _, rfl, ?_⟩
          refine iteD (fun hq => ?_) (fun hq => ?_)
          · rw [if_pos (show decide (O.ans l2 y e < 0) = true from decide_eq_true hq)] at eq
            refine ⟨_, rfl, _, _, ((((low + high) / 2 + 1 : Nat)) : Int), rfl, rfl, rfl, ?_⟩
            exact ⟨_, by omega, _, high, _, _, rfl, rfl, by omega, h2, kb1.trans kb2, hL3, by rw [List.length_append, List.length_singleton]; omega, f', by omega, eq⟩
          · rw [if_neg (by rw [show decide (O.ans l2 y e < 0) = false from decide_eq_false hq]; exact Bool.false_ne_true)] at eq
            refine ⟨_, rfl, ?_⟩
            exact ⟨_, by omega, low, _, _, _, rfl, rfl, by omega, by omega, kb1.trans kb2, hL3, by rw [List.length_append, List.length_singleton]; omega, f', by omega, eq⟩
        · rw [Mir.bsr_done _ O.ans ts e f l2 (by omega)] at eq
          have eq2 : bs = (low, l2) := ebs.trans eq
          rw [eq2]
          exact ⟨_, _, rfl, kb1, hL2⟩
      obtain ⟨v6', v7', rfl, kb1, hL2⟩ := hM
      have kbT := kb.trans kb1
      have hpt2 := kb1.keep _ _ ptq hpt
      have hpb2 := kb1.keep _ _ pbq hpb
      have sp2 := sp.2.1
      have sp4 := sp.2.2.2.1
      rw [Nat.sub_zero] at sp4
      have cm1 : Mir.clog (ts.length + 1) ≤ C := by rw [eC]; exact Mir.clog_mono (by omega)
      have lnv : (niV tails).length = tails.length := List.length_map ..
      obtain ⟨lo, elo⟩ : ∃ lo, lo = bs.1 := ⟨_, rfl⟩
      rw [← elo] at sp2 ⊢
      obtain ⟨b, hb0, hb1, hbA⟩ : ∃ b : Int, (lo = 0 → b = -1) ∧ (∀ t, 0 < lo → tails[lo - 1]? = some t → b = (t : Int)) ∧ ([V.int (-1)] ++ niV tails)[lo]? = some (.int b) := by
        rcases Nat.eq_zero_or_pos lo with z | z
        · exact ⟨-1, fun _ => rfl, fun t h => by omega, by rw [z]; rfl⟩
        · obtain ⟨u, hu⟩ : ∃ u, lo = u + 1 := ⟨lo - 1, by omega⟩
          obtain ⟨t, et⟩ : ∃ t, tails[u]? = some t := ⟨_, List.getElem?_eq_getElem (by omega)⟩
          refine ⟨(t : Int), fun h => by omega, fun t' _ h => ?_, ?_⟩
          · rw [show lo - 1 = u by omega, et] at h
            rw [Option.some.inj h]
          · rw [hu, List.getElem?_append_right (by simp)]
            show (niV tails)[u + 1 - 1]? = _
            rw [Nat.add_sub_cancel, List.getElem?_map, et]
            rfl
      -- before.append(([-1] + tails)[low])
      refine ⟨_, rfl, .inl ⟨rfl, _, SqL.of hpb2⟩, _, rfl, by show 1 ≤ sizeLine; decide, fun p1 n1 => ?_⟩
      refine ⟨_, rfl, p1, pt, [.int (-1)], niV tails, rfl, rfl, upd_same, kn n1 hpt2, z1000 (by rw [lnv]; show 1 + tails.length ≤ 1000; omega), fun p2 n2 => ?_⟩
      refine ⟨_, rfl, p2, _, _, .int b, rfl, rfl, SqL.of upd_same, atI_nat hbA, pb, before.map V.int, .int b, rfl, rfl, kn n2 (kn n1 hpb2), small1000 (by rw [List.length_map]; omega), ?_⟩
      obtain ⟨H3, e3⟩ : ∃ H3, H3 = upd (upd (upd H2 p1 (.lst [.int (-1)])) p2 (.lst ([.int (-1)] ++ niV tails))) pb (.lst (before.map V.int ++ [.int b])) := ⟨_, rfl⟩
      have kb3 : KB O.q H H3 := by rw [e3]; exact ((kbT.trans (KB.new n1)).trans (KB.new n2)).wr nbH
      have hL3 : O.Log bs.2 H3 := by rw [e3]; exact Orc.wr (Orc.new (o := .lst ([.int (-1)] ++ niV tails)) (Orc.new (o := .lst [.int (-1)]) hL2 n1) n2) (kn n2 (kn n1 hpb2)) nf_lst pbq
      have hpt3 : H3 pt = some (.lst (niV tails)) := by rw [e3, upd_ne ptb]; exact kn n2 (kn n1 hpt2)
      have hpb3 : H3 pb = some (.lst ((before ++ [b]).map V.int)) := by rw [e3, upd_same, List.map_append]; rfl
      rw [← e3]
      clear e3
      -- tails = tails[:low] + [k] + tails[low + 1:]
      have cx : cutV (niV tails) none (some (lo : Int)) = (niV tails).take lo := cut_to1 (niV tails) lo
      have cy : cutV (niV tails) (some ((lo + 1 : Nat) : Int)) none = (niV tails).drop (lo + 1) := cut_from1 (niV tails) (lo + 1)
      have l1 : ((niV tails).take lo).length = lo := by rw [List.length_take, lnv]; omega
      have l2 : ((niV tails).drop (lo + 1)).length = tails.length - (lo + 1) := by rw [List.length_drop, lnv]
      refine ⟨_, rfl, _, rfl, _, rfl, pt, niV tails, rfl, SqL.of hpt3, fun p3 n3 => ?_⟩
      rw [cx]
      refine ⟨_, rfl, by show 1 ≤ sizeLine; decide, fun p4 n4 => ?_⟩
      refine ⟨p3, p4, _, [.int (i : Nat)], rfl, rfl, kn n4 upd_same, upd_same, z1000 (by rw [l1]; show lo + 1 ≤ 1000; omega), fun p5 n5 => ?_⟩
      refine ⟨_, rfl, _, rfl, _, _, ((lo + 1 : Nat) : Int), rfl, rfl, by show ((lo + 1 : Nat) : Int) = (lo : Int) + 1; omega, _, rfl, pt, niV tails, rfl, SqL.of (kn n5 (kn n4 (kn n3 hpt3))), fun p6 n6 => ?_⟩
      rw [cy]
      refine ⟨p5, p6, _, _, rfl, rfl, kn n6 upd_same, upd_same, z1000 (by rw [List.length_append, l1, l2, List.length_singleton]; omega), fun p7 n7 => ?_⟩
      have ep : (niV tails).take lo ++ [V.int (i : Nat)] ++ (niV tails).drop (lo + 1) = niV (Mir.putP tails lo i) := by
        unfold Mir.putP
        simp [niV, List.map_take, List.map_drop]
      rw [ep]
      have kb4 := ((((KB.new (q := O.q) (o := .lst ((niV tails).take lo)) n3).trans (KB.new (o := .lst [.int (i : Nat)]) n4)).trans (KB.new (o := .lst ((niV tails).take lo ++ [.int (i : Nat)])) n5)).trans (KB.new (o := .lst ((niV tails).drop (lo + 1))) n6)).trans (KB.new (o := .lst (niV (Mir.putP tails lo i))) n7)
      have hL4 := Orc.new (o := .lst (niV (Mir.putP tails lo i))) (Orc.new (o := .lst ((niV tails).drop (lo + 1))) (Orc.new (o := .lst ((niV tails).take lo ++ [.int (i : Nat)])) (Orc.new (o := .lst [.int (i : Nat)]) (Orc.new (o := .lst ((niV tails).take lo)) hL3 n3) n4) n5) n6) n7
      have n7' : H3 p7 = none := upd_none (upd_none (upd_none (upd_none n7)))
      have hpb4 := kb4.keep _ _ pbq hpb3
      rw [eInv]
      refine ⟨p7, _, _, _, _, Mir.putP tails lo i, before ++ [b], bs.2, rfl, kb3.trans kb4, kb3.free (Orc.nq hL3 n7') n7', ne_of_none hpb3 n7' |>.symm, upd_same, hpb4, hL4, by rw [m1]; omega, by rw [Mir.putP_len (by omega)]; omega, fun t ht => ?_, by rw [List.length_append, hbl, List.length_singleton], fun j c h => ?_, fun key A => ?_⟩
      · obtain ⟨p, ep⟩ := List.mem_iff_getElem?.mp ht
        rcases Mir.putP_get (by omega) ep with ⟨_, q⟩ | ⟨_, q⟩
        · omega
        · have := htm t (List.mem_of_getElem? q)
          omega
      · rcases Mir.get_snoc h with h | ⟨hj, hp⟩
        · exact hbm j c h
        · rcases Nat.eq_zero_or_pos lo with z | z
          · exact .inl (by rw [hp, hb0 z])
          · obtain ⟨t, et⟩ : ∃ t, tails[lo - 1]? = some t := ⟨_, List.getElem?_eq_getElem (by omega)⟩
            have := htm t (List.mem_of_getElem? et)
            exact .inr ⟨t, by rw [hp, hb1 t z et], by omega⟩
      · have P := hP key A
        have et : xs.take (i + 1) = xs.take i ++ [e] := by rw [List.take_add_one, ee]; rfl
        have lt : (xs.take i).length = i := by rw [List.length_take]; omega
        have ml : (Mir.mdl key (xs.take i)).length = i := by rw [Mir.mdl_len, lt]
        have mel : ∀ (t : Nat) (y : V) (c : Nat), (Mir.mdl key (xs.take i))[t]? = some (y, c) → xs[t]? = some y := fun t y c h => by
          have h1 := Mir.mdl_el h
          have h2 : t < i := by have := (List.getElem?_eq_some_iff.mp h1).1; omega
          rw [List.getElem?_take, if_pos h2] at h1
          exact h1
        have hs : Mir.Srt key ts := List.pairwise_iff_getElem.mpr fun p q hp hq hpq => by
          obtain ⟨t, ht⟩ : ∃ t, tails[p]? = some t := ⟨_, List.getElem?_eq_getElem (by omega)⟩
          obtain ⟨u, hu⟩ : ∃ t, tails[q]? = some t := ⟨_, List.getElem?_eq_getElem (by omega)⟩
          obtain ⟨y, hy1, hy2⟩ := tsg p t ht
          obtain ⟨z, hz1, hz2⟩ := tsg q u hu
          obtain ⟨y', hy'⟩ := P.cls p t ht
          obtain ⟨z', hz'⟩ := P.cls q u hu
          have a1 := mel t y' _ hy'
          have a2 := mel u z' _ hz'
          rw [hy2] at a1
          rw [hz2] at a2
          have h3 := P.inc p q t u y' z' _ _ hpq ht hu hy' hz'
          have b1 : ts[p] = y := Option.some.inj (by rw [← hy1, List.getElem?_eq_getElem hp])
          have b2 : ts[q] = z := Option.some.inj (by rw [← hz1, List.getElem?_eq_getElem hq])
          rw [b1, b2, Option.some.inj a1, Option.some.inj a2]
          omega
        have fd := Mir.bsr_find (fun i => decide (i < 0)) O.ans ts e (ts.filter fun x => decide (key x < key e)).length (List.length_filter_le _ _) (fun l i x hx => by
          rw [← Mir.cut_place hs (fun z => decide (z < key e)) (fun a b hab hb => decide_eq_true (Int.lt_of_le_of_lt hab (of_decide_eq_true hb))) i x hx, decide_eq_true_iff, decide_eq_true_iff]
          exact A.neg l x e) ts.length 0 ts.length l' (Nat.zero_le _) (List.length_filter_le _ _) (Nat.le_refl _) (by omega)
        rw [← ebs, ← elo] at fd
        rw [et, Mir.mdl_snoc, show Mir.putP tails lo i = Mir.putP tails lo (Mir.mdl key (xs.take i)).length by rw [ml]]
        refine P.step e (by omega) (fun p t y c h1 h2 => ?_) hb0 hb1 (by rw [hbl, ml])
        obtain ⟨y', hy1, hy2⟩ := tsg p t h1
        have a1 := mel t y c h2
        rw [hy2] at a1
        have cp := Mir.cut_place hs (fun z => decide (z < key e)) (fun a b hab hb => decide_eq_true (Int.lt_of_le_of_lt hab (of_decide_eq_true hb))) p y' hy1
        rw [decide_eq_true_iff, ← fd, Option.some.inj a1] at cp
        exact cp
    rw [eInv] at hM
    obtain ⟨pt, v4, v5, v6, v7, tails, before, l', rfl, kb, npt, ptb, hpt, hpb, hL', hl, htl, htm, hbl, hbm, hP⟩ := hM
    rw [List.take_length] at hP
    clear eInv Inv
    -- found = []
    refine ⟨Nat.zero_le _, fun pf nf => ?_⟩
    have nfH : H pf = none := kb.free (Orc.nq hL' nf) nf
    have pfq : pf ≠ O.q := Orc.nq hL' nf
    have pbf : pb ≠ pf := ne_of_none hpb nf
    have lnv : (niV tails).length = tails.length := List.length_map ..
    -- place
    obtain ⟨b, hbA, hbr⟩ : ∃ b : Int, atI ([V.int (-1)] ++ niV tails) (-1) = some (.int b) ∧ ((tails = [] ∧ b = -1) ∨ ∃ t, tails.getLast? = some t ∧ b = (t : Int)) := by
      rcases List.eq_nil_or_concat tails with z | ⟨r, t, z⟩
      · exact ⟨-1, by rw [z]; exact atI_last [] _, .inl ⟨z, rfl⟩⟩
      · rw [List.concat_eq_append] at z
        refine ⟨(t : Int), ?_, .inr ⟨t, by rw [z]; simp, rfl⟩⟩
        have e : [V.int (-1)] ++ niV tails = ([V.int (-1)] ++ niV r) ++ [.int (t : Nat)] := by rw [z]; simp [niV]
        rw [e]
        exact atI_last _ _
    refine ⟨_, rfl, by show 1 ≤ sizeLine; decide, fun p1 n1 => ?_⟩
    refine ⟨_, rfl, p1, pt, [.int (-1)], niV tails, rfl, rfl, upd_same, kn n1 (kn nf hpt), z1000 (by rw [lnv]; show 1 + tails.length ≤ 1000; omega), fun p2 n2 => ?_⟩
    refine ⟨_, rfl, p2, _, _, .int b, rfl, rfl, SqL.of upd_same, hbA, ?_⟩
    obtain ⟨H2, e2⟩ : ∃ H2, H2 = upd (upd (upd H1 pf (.lst [])) p1 (.lst [.int (-1)])) p2 (.lst ([.int (-1)] ++ niV tails)) := ⟨_, rfl⟩
    have kb2 : KB O.q H H2 := by rw [e2]; exact ((kb.trans (KB.new nf)).trans (KB.new n1)).trans (KB.new n2)
    have hL2 : O.Log l' H2 := by rw [e2]; exact Orc.new (Orc.new (Orc.new hL' nf) n1) n2
    have hpf2 : H2 pf = some (.lst (niV [])) := by rw [e2]; exact kn n2 (kn n1 upd_same)
    have hpb2 : H2 pb = some (.lst (before.map V.int)) := by rw [e2]; exact kn n2 (kn n1 (kn nf hpb))
    rw [← e2]
    clear e2
    -- the chain
    refine ⟨fun m σ H' => ∃ (pl : Int) (fs : List Nat), σ = [some (.ref a), some (.ref O.f), some (.ref pt), some (.ref pb), v4, v5, v6, v7, some (.ref pf), some (.int pl)] ∧ KB O.q H H' ∧ H' pf = some (.lst (niV fs)) ∧ H' pb = some (.lst (before.map V.int)) ∧ O.Log l' H' ∧ (pl = -1 ∨ ∃ u : Nat, pl = (u : Int) ∧ u < xs.length ∧ ∀ t ∈ fs, u < t) ∧ (∀ t ∈ fs, t < xs.length) ∧ fs.Pairwise (fun i j => j < i) ∧ m = (pl + 1).toNat ∧ fs.length + m ≤ xs.length ∧
      ∀ key, Mir.KeyA O.ans key → ∃ c, fs.length + c = tails.length ∧ (c = 0 → pl = -1) ∧ (0 < c → ∃ (u : Nat) (x : V), pl = (u : Int) ∧ (Mir.mdl key xs)[u]? = some (x, c) ∧ ∀ t ∈ fs, ∀ y, xs[t]? = some y → key x < key y) ∧ fs.Pairwise fun i j => ∀ x y, xs[i]? = some x → xs[j]? = some y → key y < key x,
      ⟨_, b, [], rfl, kb2, hpf2, hpb2, hL2, ?_, (fun t h => by cases h), List.Pairwise.nil, rfl, ?_, fun key A => ⟨tails.length, by simp, fun h => ?_, fun h => ?_, List.Pairwise.nil⟩⟩, ?_⟩
    · rcases hbr with ⟨_, z⟩ | ⟨t, ht, z⟩
      · exact .inl z
      · exact .inr ⟨t, z, htm t (List.mem_of_getLast? ht), fun u h => by cases h⟩
    · rcases hbr with ⟨_, z⟩ | ⟨t, ht, z⟩
      · rw [z]; simp
      · have := htm t (List.mem_of_getLast? ht)
        rw [z, List.length_nil]
        omega
    · rcases hbr with ⟨_, z⟩ | ⟨t, ht, z⟩
      · exact z
      · rw [List.length_eq_zero_iff.mp h] at ht
        cases ht
    · rcases hbr with ⟨z, _⟩ | ⟨t, ht, z⟩
      · rw [z] at h
        exact absurd h (by simp)
      · have ht2 := ht
        rw [List.getLast?_eq_getElem?] at ht2
        obtain ⟨x, hx⟩ := (hP key A).cls _ t ht2
        exact ⟨t, x, z, by rw [hx, show tails.length - 1 + 1 = tails.length by omega], fun u hu => by cases hu⟩
    rintro m σ H' ⟨pl, fs, rfl, kb3, hpf, hpb3, hL3, hpl, hfm, hfp, hm, hfl, hK⟩
    refine ⟨_, rfl, _, _, rfl, rfl, _, rfl, ?_⟩
    refine iteD (fun hge => ?_) (fun hge => ?_)
    · have hge' : (0 : Int) ≤ pl := hge
      obtain ⟨u, hu, hun, hut⟩ : ∃ u : Nat, pl = (u : Int) ∧ u < xs.length ∧ ∀ t ∈ fs, u < t := by
        rcases hpl with z | z
        · omega
        · exact z
      subst hu
      obtain ⟨b', eb'⟩ : ∃ b', before[u]? = some b' := ⟨_, List.getElem?_eq_getElem (by omega)⟩
      have hb' := hbm u b' eb'
      refine ⟨_, fun _ _ h => h, ?_⟩
      refine ⟨_, rfl, .inl ⟨rfl, _, SqL.of hpf⟩, _, rfl, pf, niV fs, .int (u : Nat), rfl, rfl, hpf, small1000 (by rw [List.length_map]; omega), ?_⟩
      have hpb4 : upd H' pf (.lst (niV fs ++ [.int (u : Nat)])) pb = some (.lst (before.map V.int)) := (upd_ne pbf).trans hpb3
      refine ⟨_, rfl, _, rfl, pb, before.map V.int, _, .int b', rfl, rfl, SqL.of hpb4, atI_nat (by rw [List.getElem?_map, eb']; rfl), ?_⟩
      refine ⟨_, ?_, b', fs ++ [u], rfl, kb3.wr nfH, by rw [upd_same]; simp [niV], hpb4, Orc.wr hL3 hpf nf_lst pfq, ?_, ?_, ?_, rfl, ?_, fun key A => ?_⟩
      · rcases hb' with z | ⟨i, z, hi⟩ <;> omega
      · rcases hb' with z | ⟨i, z, hi⟩
        · exact .inl z
        · refine .inr ⟨i, z, by omega, fun t ht => ?_⟩
          rcases List.mem_append.mp ht with q | q
          · have := hut t q; omega
          · rw [List.mem_singleton.mp q]; exact hi
      · intro t ht
        rcases List.mem_append.mp ht with q | q
        · exact hfm t q
        · rw [List.mem_singleton.mp q]; exact hun
      · refine List.pairwise_append.mpr ⟨hfp, List.pairwise_singleton _ _, fun t ht v hv => ?_⟩
        rw [List.mem_singleton.mp hv]
        exact hut t ht
      · rw [List.length_append, List.length_singleton]
        rcases hb' with z | ⟨i, z, hi⟩ <;> omega
      · obtain ⟨c, c1, c2, c3, c4⟩ := hK key A
        rcases Nat.eq_zero_or_pos c with z | z
        · have := c2 z; omega
        obtain ⟨u', x, hu', hx, hlt⟩ := c3 z
        obtain rfl : u = u' := by omega
        have hxu : xs[u]? = some x := Mir.mdl_el hx
        obtain ⟨f1, f2⟩ := (hP key A).bef u x c hx
        refine ⟨c - 1, by rw [List.length_append, List.length_singleton]; omega, fun e => ?_, fun e => ?_, List.pairwise_append.mpr ⟨c4, List.pairwise_singleton _ _, fun t ht v hv y z h1 h2 => ?_⟩⟩
        · have h := f1 (by omega)
          rw [eb'] at h
          exact Option.some.inj h
        · obtain ⟨i, y, h1, h2, h3, h4⟩ := f2 (by omega)
          rw [eb'] at h1
          refine ⟨i, y, Option.some.inj h1, h3, fun t ht v hv => ?_⟩
          rcases List.mem_append.mp ht with q | q
          · have := hlt t q v hv
            omega
          · rw [List.mem_singleton.mp q, hxu] at hv
            rw [← Option.some.inj hv]
            exact h4
        · rw [List.mem_singleton.mp hv, hxu] at h2
          rw [← Option.some.inj h2]
          exact hlt t ht y h1
    · have hlt : ¬ (0 : Int) ≤ pl := hge
      refine ⟨_, rfl, pf, niV fs, rfl, SqL.of hpf, fun p np => ?_⟩
      have er : (niV fs).reverse = niV fs.reverse := (List.map_reverse ..).symm
      rw [er]
      refine k _ p fs.reverse l' (kb3.trans (KB.new np)) (kb3.free (Orc.nq hL3 np) np) upd_same (Orc.new hL3 np) hl (fun t ht => hfm t (List.mem_reverse.mp ht)) (List.pairwise_reverse.mpr hfp) fun key A => ?_
      obtain ⟨c, c1, c2, c3, c4⟩ := hK key A
      have c0 : c = 0 := by
        rcases Nat.eq_zero_or_pos c with z | z
        · exact z
        · obtain ⟨u, x, hu, _⟩ := c3 z
          omega
      exact ⟨by rw [List.length_reverse, ← (hP key A).longest]; omega, List.pairwise_reverse.mpr (c4.imp fun h x y h1 h2 => h y x h2 h1)⟩
end
end Ord

/-! max(a list of ints, default=d): a built-in's tree with keywords, its loop with a default -/
namespace Ord
open PySem PySem.Spec PyProof.Rows L2
section
variable {prog : Program} {w : World} {A : Around} {E : Value → Shared → Prop} {s : Shared}
theorem tree_kw {id : String} {b : Builtin} {args : List Value} {kw : List (Str × Value)} {Q : Value → Shared → Prop} (hk : builtinKind id = none) (hp : plainId id = true)
    (hb : entryFor table id = some b) (ha : argsOk id ⟨args, kw⟩)
    (hc : wpAny (model prog w) A.in1 (b ⟨args, kw⟩) (fun fin s' => match fin with
      | .done f => (match (Except.ok f : Result) with | .ok (.ret v) => Q v s' | .ok _ => False | .error e => E e s')
      | .again c' => c'.quiet = true ∧ codeAny (model prog w) A c' (fun r s' => match r with | .ok (.ret v) => Q v s' | .ok _ => False | .error e => E e s') s') E s) :
    wpAny (model prog w) A (call (.builtin id) args kw) Q E s := by
  refine wpAny_call (codeAny_call_builtin hp hb ?_)
  simp only [checkBuiltinCall, hk]
  cases hsig : Manifest.signature? id with
  | none => exact wpAny_pure hc
  | some sig =>
    simp only [argsOk, hsig] at ha
    have h2 : Bind.checkArgs id sig ⟨args, kw⟩ = pure () := ha
    show wpAny _ A.in1 (Bind.checkArgs id sig ⟨args, kw⟩) _ _ s
    rw [h2]
    exact wpAny_pure hc
end
section
variable {prog : Program} {w : World} {A : Around} {R : Result → Shared → Prop} {I : Addr} {fp wr : List Addr} {n : Nat} {P : Nat → Value → Prop} {St : Nat → Heap → Prop} {d : Value}
def dkw (d : Value) : List (Str × Value) := [("default", d)]
theorem maxd_turn (W : Walks prog w A.in1 I fp wr n P St) (bt : Nat → Nat → Bool) (hcmp : CmpOf prog w A.in1 .Gt P bt) (S : Addr) (hSf : S ∉ fp) :
    ∀ (k j : Nat) (s : Shared) (vb : Value) (c : Nat), n - (j + 1) = k → j + 1 ≤ n → St (j + 1) s.heap → P (argBest bt j) vb →
    s.heap.get? S = some { cls := .type "list", dict := none, data := .seq #[vb, vb] c, slots := #[] } →
    (∀ v h' tk, P (argBest bt (n - 1)) v → (∀ b o, b ∉ wr → b ≠ S → s.heap.get? b = some o → h'.get? b = some o) → R (.ok (.ret v)) { s with heap := h', toks := tk }) →
    codeAny (model prog w) A (.builtin "max.loop" ⟨[.ref I, .none, .ref S], dkw d⟩) R s := by
  have hSw : S ∉ wr := fun h => hSf (W.sub _ h)
  have hname : (toString "max" ++ toString ".loop" : String) = "max.loop" := by decide
  intro k
  induction k with
  | zero =>
    intro j s vb c hk hj hst hPb hS hR
    have hin : j + 1 = n := by omega
    refine codeAny_builtin F.entry_max_loop ?_
    rw [Around.under_plainId F.plain_max_loop _]
    show wpAny _ A.in1 (seqItems? (.ref S) >>= _) _ _ s
    refine wpAny_bind (wpAny_seqItems hS rfl ?_)
    show wpAny _ A.in1 (tryCatch (pyNext (.ref I)) _ >>= _) _ _ s
    refine wpAny_bind (wpAny_tryCatch (W.done s _ _ (hin ▸ hst) fun h' tk hk' => ?_))
    have hS' := hk' S _ hSw hS
    show wpAny _ A.in1 (updateSeq S (fun _ => #[]) >>= _) _ _ _
    refine wpAny_bind ?_
    refine wpAny_updateSeq hS' rfl (wpAny_bind (wpAny_letGo (wpAny_pure ?_)))
    refine hR vb _ tk (by rw [← hin]; exact hPb) fun b o hbw hbS e => (Heap.get?_update_other _ _ (Ne.symm hbS)).trans (hk' b o hbw e)
  | succ k ih =>
    intro j s vb c hk hj hst hPb hS hR
    have hlt : j + 1 < n := by omega
    refine codeAny_builtin F.entry_max_loop ?_
    rw [Around.under_plainId F.plain_max_loop _]
    show wpAny _ A.in1 (seqItems? (.ref S) >>= _) _ _ s
    refine wpAny_bind (wpAny_seqItems hS rfl ?_)
    show wpAny _ A.in1 (tryCatch (pyNext (.ref I)) _ >>= _) _ _ s
    refine wpAny_bind (wpAny_tryCatch (W.item (j + 1) s _ _ hlt hst fun v h' tk hP hst' hk' => ?_))
    have hS' := hk' S _ hSw hS
    show wpAny _ A.in1 (tryCatch (holding [v, v] (richCompare .Gt v vb >>= _)) _ >>= _) _ _ _
    refine wpAny_bind (wpAny_tryCatch (wpAny_holding (wpAny_bind (hcmp (j + 1) (argBest bt j) v vb _ _ _ hP hPb ?_))))
    refine wpAny_bind (wpAny_holding (wpAny_truthy_bool ?_))
    refine wpAny_bind (wpAny_letGo (wpAny_pure ?_))
    cases hb : bt (j + 1) (argBest bt j) with
    | true =>
      simp only [if_true]
      refine wpAny_bind ?_
      refine wpAny_updateSeq hS' rfl (wpAny_bind (wpAny_letGo ?_))
      rw [hname]
      refine wpAny_pure ⟨plainId_quiet F.plain_max_loop _, ih (j + 1) _ v _ (by omega) hlt (W.frame _ _ _ hst' fun b hbf o e => ?_) (by simp only [argBest, hb, if_true]; exact hP) (Heap.get?_update_self _ hS' rfl)
        fun v' h'' tk'' hP' hk'' => ?_⟩
      · exact (Heap.get?_update_other _ _ (fun h : S = b => hSf (by rw [h]; exact hbf))).trans e
      · exact hR v' h'' tk'' hP' fun b o hbw hbS e => hk'' b o hbw hbS ((Heap.get?_update_other _ _ (Ne.symm hbS)).trans (hk' b o hbw e))
    | false =>
      simp only [Bool.false_eq_true, if_false]
      refine wpAny_bind (wpAny_letGo ?_)
      rw [hname]
      refine wpAny_pure ⟨plainId_quiet F.plain_max_loop _, ih (j + 1) _ vb c (by omega) hlt hst' (by simp only [argBest, hb, Bool.false_eq_true, if_false]; exact hPb) hS' fun v' h'' tk'' hP' hk'' => ?_⟩
      exact hR v' h'' tk'' hP' fun b o hbw hbS e => hk'' b o hbw hbS (hk' b o hbw e)
theorem maxd_first (W : Walks prog w A.in1 I fp wr n P St) (bt : Nat → Nat → Bool) (hcmp : CmpOf prog w A.in1 .Gt P bt) (S : Addr) (hSf : S ∉ fp) {s : Shared} {c : Nat} (hst : St 0 s.heap)
    (hS : s.heap.get? S = some { cls := .type "list", dict := none, data := .seq #[] c, slots := #[] })
    (hR : ∀ v h' tk, (n = 0 → v = d) → (0 < n → P (argBest bt (n - 1)) v) → (∀ b o, b ∉ wr → b ≠ S → s.heap.get? b = some o → h'.get? b = some o) → R (.ok (.ret v)) { s with heap := h', toks := tk }) :
    codeAny (model prog w) A (.builtin "max.loop" ⟨[.ref I, .none, .ref S], dkw d⟩) R s := by
  have hSw : S ∉ wr := fun h => hSf (W.sub _ h)
  have hname : (toString "max" ++ toString ".loop" : String) = "max.loop" := by decide
  refine codeAny_builtin F.entry_max_loop ?_
  rw [Around.under_plainId F.plain_max_loop _]
  show wpAny _ A.in1 (seqItems? (.ref S) >>= _) _ _ s
  refine wpAny_bind (wpAny_seqItems hS rfl ?_)
  show wpAny _ A.in1 (tryCatch (pyNext (.ref I)) _ >>= _) _ _ s
  by_cases hn : 0 < n
  · refine wpAny_bind (wpAny_tryCatch (W.item 0 s _ _ hn hst fun v h' tk hP hst' hk' => ?_))
    have hS' := hk' S _ hSw hS
    show wpAny _ A.in1 (updateSeq S (fun _ => #[v, v]) >>= _) _ _ _
    refine wpAny_bind ?_
    refine wpAny_updateSeq hS' rfl ?_
    rw [hname]
    refine wpAny_pure ⟨plainId_quiet F.plain_max_loop _, maxd_turn W bt hcmp S hSf _ 0 _ v _ rfl hn (W.frame _ _ _ hst' fun b hbf o e => ?_) hP (Heap.get?_update_self _ hS' rfl) fun v' h'' tk'' hP' hk'' => ?_⟩
    · exact (Heap.get?_update_other _ _ (fun h : S = b => hSf (by rw [h]; exact hbf))).trans e
    · exact hR v' h'' tk'' (fun z => by omega) (fun _ => hP') fun b o hbw hbS e => hk'' b o hbw hbS ((Heap.get?_update_other _ _ (Ne.symm hbS)).trans (hk' b o hbw e))
  · have h0 : n = 0 := by omega
    refine wpAny_bind (wpAny_tryCatch (W.done s _ _ (by rw [h0]; exact hst) fun h' tk hk' => ?_))
    refine wpAny_bind (wpAny_rule (wpAny_pure ?_))
    exact hR d h' tk (fun _ => rfl) (fun z => absurd z hn) fun b o hbw hbS e => hk' b o hbw e
end
section
variable {prog : Program} {w : World} {A : Around} {E : Value → Shared → Prop} {s : Shared}
theorem max_argsd (a d : Value) : argsOk "max" ⟨[a], dkw d⟩ := by unfold argsOk dkw; kernel_rfl
theorem maxd_walk {x d : Value} {Q : Value → Shared → Prop}
    (h : wpAny (model prog w) A.in1 (pyIter x) (fun it s₂ => ∃ I fp wr n P St bt, it = .ref I ∧ Walks prog w A.in1 I fp wr n P St ∧ St 0 s₂.heap ∧ (∀ b ∈ fp, b < s₂.heap.objs.size) ∧ CmpOf prog w A.in1 .Gt P bt ∧
      ∀ v h' tk, (n = 0 → v = d) → (0 < n → P (argBest bt (n - 1)) v) → (∀ b o, b ∉ wr → s₂.heap.get? b = some o → h'.get? b = some o) → Q v { s₂ with heap := h', toks := tk }) E s) :
    wpAny (model prog w) A (call (.builtin "max") [x] (dkw d)) Q E s := by
  have hname : (toString "max" ++ toString ".loop" : String) = "max.loop" := by decide
  refine tree_kw F.kind_max F.plain_max F.entry_max (max_argsd _ _) ?_
  show wpAny _ A.in1 (Builtin.Builtins.bindParams "max" ["key", "default"] 0 ⟨[], dkw d⟩ >>= _) _ _ s
  refine wpAny_bind (wpAny_of_eq (show Builtin.Builtins.bindParams "max" ["key", "default"] 0 ⟨[], dkw d⟩ = pure [none, some d] from rfl) ?_)
  refine wpAny_bind (wpAny_pure ?_)
  refine wpAny_bind (wpAny_mono h (fun it s₂ h₂ => ?_) fun _ _ e => e)
  obtain ⟨I, fp, wr, n, P, St, bt, rfl, W, hst, hfp, hcmp, hQ⟩ := h₂
  refine wpAny_bind (wpAny_newObj_type ?_)
  have hSf : s₂.heap.objs.size ∉ fp := fun hm => Nat.lt_irrefl _ (hfp _ hm)
  rw [hname]
  refine wpAny_pure ⟨plainId_quiet F.plain_max_loop _, maxd_first W bt hcmp s₂.heap.objs.size hSf (W.frame _ _ _ hst fun b _ o e => Heap.get?_push_of_some _ e) (Heap.get?_push_size _ rfl) fun v h' tk h0 hP hk => ?_⟩
  exact hQ v h' tk h0 hP fun b o hbw e => hk b o hbw (Nat.ne_of_lt (Heap.lt_size e)) (Heap.get?_push_of_some _ e)
theorem maxd_raw {l : Addr} {its : List Value} {ns : List Int} {d : Value} {Q : Value → Shared → Prop} (hh : A.handled = none) (hl : s.heap.IsList l its.toArray) (hi : IntsAre its ns)
    (h0 : ns = [] → ∀ h' tk, (∀ b o, s.heap.get? b = some o → h'.get? b = some o) → Q d { s with heap := h', toks := tk })
    (h : ∀ h' tk M t', (∀ b o, s.heap.get? b = some o → h'.get? b = some o) → M ∈ ns → (∀ a, a ∈ ns → a ≤ M) → Q (.int M t') { s with heap := h', toks := tk }) : wpAny (model prog w) A (call (.builtin "max") [.ref l] (dkw d)) Q E s := by
  obtain ⟨xs, e⟩ := hi.allInts.items
  have hn : numsOf (intItems xs).toList = ns := by rw [← e]; exact hi.numsOf
  rw [nums_intItems] at hn
  subst hn
  rw [e] at hl
  refine maxd_walk (iter_intList hl fun s₂ e st hfp hlI => ?_)
  subst e
  refine ⟨_, _, _, _, _, _, _, rfl, Walks.list (A := A.in1) hh _ l hlI (intItems xs), st, hfp, CmpOf.ints_gt (numAt xs) (fun _ _ => intItems_at), fun v h' tk hz hP hk => ?_⟩
  by_cases hne : 0 < xs.size
  · have hv := hP (by simpa [intItems] using hne)
    have hv : (intItems xs)[argBest (fun i j => decide (numAt xs i > numAt xs j)) (xs.size - 1)]? = some v := by simpa [intItems] using hv
    obtain ⟨t, rfl⟩ := intItems_at hv
    obtain ⟨h1, h2⟩ := argBest_gt (numAt xs) (xs.size - 1)
    refine h h' tk _ t (old_kept hk) ?_ fun a ha => ?_
    · rw [numAt_eq]; exact PySem.getD_mem (by rw [List.length_map, Array.length_toList]; omega)
    · obtain ⟨j, hj, rfl⟩ := mem_getD ha
      rw [List.length_map, Array.length_toList] at hj
      rw [← numAt_eq]; exact h2 j (by omega)
  · have e0 : xs.size = 0 := by omega
    have hv := hz (by simpa [intItems] using e0)
    rw [hv]
    have e1 : xs = #[] := Array.eq_empty_of_size_eq_zero e0
    exact h0 (by rw [e1]; rfl) h' tk (old_kept hk)
end
/-! ### the rule -/
def rMaxDef (K : PySem.W.Frag) : List V → List V → Hp → VK → Prop := fun vs zs H Q => ∃ (a : Addr) (ns : List Int) (d : Int), vs = [V.ref a] ∧ zs = [.int d] ∧ SqL K H a (ns.map V.int) ∧ (ns = [] → Q (.int d) H) ∧ ∀ m, m ∈ ns → (∀ y, y ∈ ns → y ≤ m) → Q (.int m) H
theorem cr_maxDef {X : Cx} {K : PySem.W.Frag} (hc : X.calm = true) (hK : X.K = K := by rfl) : CallRK X (.builtin "max") [Str.ofString "default"] (rMaxDef K) := by
  subst hK
  intro pins s σ H vs zs us ws Q I r rz h
  obtain ⟨a, ns, d, rfl, rfl, hs, q0, q⟩ := h
  obtain ⟨its, rv, hl, _⟩ := I.list hs
  obtain rfl := Vals.ref1 r
  obtain ⟨w1, rfl, t1, rfl⟩ := vals1 rz
  exact maxd_raw (I.ok.hd hc) hl.isList rv.ints (fun e h' tk hk => ⟨.int _, H, I.kept hk, ⟨_, rfl⟩, q0 e⟩) fun h' tk m t' hk h1 h2 => ⟨.int _, H, I.kept hk, ⟨_, rfl⟩, q m h1 h2⟩
end Ord

set_option pp.deepTerms false
set_option pp.maxSteps 1500
namespace Ord
open PySem PySem.Spec PyProof.Rows L2 LamX
theorem maxdef_use {K : PySem.W.Frag} {H : Hp} {D : Addr} {L : List Nat} {Q : VK} (s : SqL K H D (niV L)) (q : Q (.int (Mir.mxn L : Nat)) H) : rMaxDef K [.ref D] [.int 0] H Q := by
  have e : (L.map fun n : Nat => (n : Int)).map V.int = niV L := by simp [niV]
  refine ⟨D, L.map fun n : Nat => (n : Int), 0, rfl, rfl, by rw [e]; exact s, fun h => ?_, fun m hm hx => ?_⟩
  · have : L = [] := by simpa using h
    rw [this] at q
    exact q
  · obtain ⟨n, hn, rfl⟩ := List.mem_map.mp hm
    have : Mir.mxn L = n := Mir.mxn_eq (fun x hx' => by have := hx (x : Int) (List.mem_map.mpr ⟨x, hx', rfl⟩); omega) (.inr hn)
    rw [this] at q
    exact q
section
variable {P : Program} {w : World} {K : PySem.W.Frag} {mg : Str → Option Value} {base : Heap}
def spLongest (K : PySem.W.Frag) : Sp := fun vs H Q _ => ∃ (a : Addr) (xs : List V) (way : Int) (c : V → Int × Int), vs = [.ref a, .int way] ∧ SqL K H a xs ∧ Els c xs H ∧ xs.length ≤ 100 ∧
  ∀ (H' : Hp), Same H H' → Q (.int (Mir.longest (kyc way c) xs : Nat)) H'
def N__law_longest : List Str := ["_law_row_here", "_law_way", "_law_made", "_law_k", "_law_j"]
theorem sc__law_longest : FnScope ["_law_row_here", "_law_way", "_law_made", "_law_k", "_law_j"] ["_law_row_here", "_law_way"] (defScope st__law_longest) := ⟨rfl, rfl, rfl, by decide +kernel, rfl, by decide +kernel, by decide +kernel⟩
theorem ok_longest (d__law_longest : Df K mg "_law_longest" st__law_longest ["_law_row_here", "_law_way"]) (d__law_answer : Df K mg "_law_answer" st__law_answer ["_law_way", "_law_one", "_law_other"]) (mLen : mg "len" = none) (mInt : mg "int" = none) (mAbs : mg "abs" = none) (mMax : mg "max" = none) (mRange : mg "range" = none) : FnOk P w K mg base CX0 2 d__law_longest.f d__law_longest.fd ["_law_row_here", "_law_way"] (spLongest K) := by
  have G__law_answer : FnOk P w K mg base CX0 1 d__law_answer.f d__law_answer.fd ["_law_way", "_law_one", "_law_other"] spAnswer := ok_answer d__law_answer mInt mAbs
  refine d__law_longest.F.ok sc__law_longest (fun vs H Q E h => ?_) (fun cdv A outer s H vs Q E hr h => ?_)
  · obtain ⟨a, xs, way, c, rfl, _⟩ := h
    rfl
  · obtain ⟨a, xs, way, c, rfl, hS, hE, hz, hQ⟩ := h
    have nd := sc__law_longest.nd
    obtain ⟨key, ek⟩ : ∃ key, key = kyc way c := ⟨_, rfl⟩
    rw [← ek] at hQ
    refine ⟨_, (pss_cons (ps_set (i := 2) nd rfl (Or.inr rfl) (pe_lst pa_nil))
  (pss_cons (ps_for PassesOwn.never rfl (pi_range1 (by rfl) mRange (pa_cons (pe_len mLen (pv 0)) pa_nil)) (pg_name (i := 3) nd rfl (Or.inr rfl))
    (pss_one (ps_expr (pe_bm PySem.F.plainAttrs_list PySem.F.slot_list_append PySem.F.type_list_append mt_append (pv 2) (pa_cons (pe_op op_addE pe_int (pe_callBK (cr_maxDef (K := K) rfl) (by rfl) mMax (by decide +kernel) (pa_cons (pe_lc (own := [("_law_j", 4)]) (g := gName 4) rfl nd (pi_range1 (by rfl) mRange (pa_cons (pv 3) pa_nil)) (blkOk_by (own := [("_law_j", 4)]) (N := N__law_longest) (sc := defScope st__law_longest) (by decide +kernel)) (fun _ _ _ _ _ => pg_name (i := 4) nd rfl (Or.inl rfl)) (fun _ _ _ _ _ => pts_one (pt_cmpR op_lt (pe_cd (d := d__law_answer) G__law_answer (hr.mono (by decide)) (pa_cons (pv 1) (pa_cons (pe_ix (ix_listK (K := K)) (pv 0) (pv 4) (fun _ _ => rfl)) (pa_cons (pe_ix (ix_listK (K := K)) (pv 0) (pv 3) (fun _ _ => rfl)) pa_nil)))) pe_int (nomark _))) (fun _ _ _ _ _ => (pe_ix (ix_listK (K := K)) (pv 2) (pv 4) (fun _ _ => rfl)))) pa_nil) (pk_cons pe_int pk_nil))) pa_nil)))))
  (pss_one (ps_ret (pe_callBK (cr_maxDef (K := K) rfl) (by rfl) mMax (by decide +kernel) (pa_cons (pv 2) pa_nil) (pk_cons pe_int pk_nil)))))), ?_⟩
    refine ⟨Nat.zero_le _, fun m nm => ?_⟩
    have s0 := Same.new (o := .lst []) nm
    refine ⟨_, rfl, a, xs, rfl, .inl (s0.seq hS), (xs.length : Int), rfl, by omega, by omega, ?_⟩
    refine for_range (lo := 0) (n := (xs.length : Int).toNat) (fun i σ H' => ∃ (v3 v4 : Option V), σ = [some (.ref a), some (.int way), some (.ref m), v3, v4] ∧ Same H H' ∧ H' m = some (.lst (niV ((Mir.mdl key (xs.take i)).map (·.2)))))
      ⟨none, none, rfl, s0, upd_same⟩ ?_ ?_
    · rintro i σ H1 hi ⟨v3, v4, rfl, s1, hm⟩
      rw [show ((0 : Int) + (i : Nat)) = ((i : Nat) : Int) from Int.zero_add _]
      have hi' : i < xs.length := by omega
      obtain ⟨e, ee⟩ : ∃ e, xs[i]? = some e := ⟨_, List.getElem?_eq_getElem hi'⟩
      obtain ⟨M, eM⟩ : ∃ M, M = Mir.mdl key (xs.take i) := ⟨_, rfl⟩
      have lM : M.length = i := by rw [eM, Mir.mdl_len, List.length_take]; omega
      rw [← eM] at hm
      have hSq := s1.seq hS
      refine ⟨_, rfl, .inl ⟨rfl, _, SqL.of hm⟩, _, rfl, (i : Int), rfl, by omega, by omega, fun D hD => ?_⟩
      have mD : m ≠ D := ne_of_none hm hD
      refine lc_range (lo := 0) (n := (i : Int).toNat) (fun j H3 => Same H1 H3 ∧ H3 D = some (.lst (niV (((M.take j).filter fun p => decide (key p.1 < key e)).map (·.2))))) ⟨Same.new hD, by rw [upd_same]; rfl⟩ ?_ ?_
      · rintro j H3 hj ⟨s3, h3⟩
        rw [show ((0 : Int) + (j : Nat)) = ((j : Nat) : Int) from Int.zero_add _]
        have hj' : j < i := by omega
        obtain ⟨p, ep⟩ : ∃ p, M[j]? = some p := ⟨_, List.getElem?_eq_getElem (by omega)⟩
        have ex : xs[j]? = some p.1 := by
          have h := ep
          rw [eM] at h
          have h1 := Mir.mdl_el h
          rw [List.getElem?_take, if_pos hj'] at h1
          exact h1
        have sT := s1.trans s3
        have hx := (hE p.1 (List.mem_of_getElem? ex)).tk (Same.tk sT)
        have he := (hE e (List.mem_of_getElem? ee)).tk (Same.tk sT)
        have hS3 := sT.seq hS
        have et : M.take (j + 1) = M.take j ++ [p] := by rw [List.take_add_one, ep]; rfl
        refine ⟨rfl, ?_⟩
        refine ⟨_, rfl, _, rfl, _, rfl, a, xs, _, p.1, rfl, rfl, hS3, atI_nat ex, _, rfl, _, rfl, a, xs, _, e, rfl, rfl, hS3, atI_nat ee, way, p.1, e, c p.1, c e, rfl, hx.1, he.1, hx.2.1, he.2.1, _, _, rfl, rfl, _, rfl, ?_⟩
        have ea : Mir.ansI way (c p.1) (c e) < 0 ↔ key p.1 < key e := by rw [ek]; exact (Mir.ansI_pos way _ _).2
        have lf := List.length_filter_le (fun p => decide (key p.1 < key e)) (M.take j)
        have lt : (M.take j).length ≤ i := by rw [List.length_take]; omega
        refine iteD (fun h => ?_) (fun h => ?_)
        · refine ⟨_, rfl, _, rfl, m, niV (M.map (·.2)), _, .int (p.2 : Nat), rfl, rfl, SqL.of (s3 _ _ hm), atI_nat (by rw [List.getElem?_map, List.getElem?_map, ep]; rfl), ?_⟩
          refine ⟨_, h3, small1000 (by rw [List.length_map, List.length_map]; omega), fun b o e => ?_, ?_⟩
          · rw [upd_ne (ne_of_none e hD)]
            exact s3 _ _ e
          · rw [upd_same, et, List.filter_append, List.filter_cons, if_pos (decide_eq_true (ea.mp h))]
            simp [niV]
        · refine ⟨s3, ?_⟩
          rw [h3, et, List.filter_append, List.filter_cons, if_neg (by rw [decide_eq_false fun z => h (ea.mpr z)]; exact Bool.false_ne_true)]
          simp
      · rintro H3 ⟨s3, h3⟩
        rw [show M.take (i : Int).toNat = M by rw [Int.toNat_natCast]; exact List.take_of_length_le (by omega)] at h3
        dsimp only [tNil, tCons, tC]
        refine maxdef_use (SqL.of h3) ?_
        obtain ⟨mx, emx⟩ : ∃ mx, mx = Mir.mxn ((M.filter fun p => decide (key p.1 < key e)).map (·.2)) := ⟨_, rfl⟩
        rw [← emx]
        refine ⟨_, _, ((1 + mx : Nat) : Int), rfl, rfl, (by show ((1 + mx : Nat) : Int) = 1 + (mx : Int); omega), m, niV (M.map (·.2)), _, rfl, rfl, s3 _ _ hm, small1000 (by rw [List.length_map, List.length_map]; omega), ?_⟩
        refine ⟨_, _, rfl, fun b o eo => by rw [upd_ne (ne_of_none eo nm)]; exact s3 _ _ (s1 _ _ eo), ?_⟩
        have et : xs.take (i + 1) = xs.take i ++ [e] := by rw [List.take_add_one, ee]; rfl
        rw [upd_same, et, Mir.mdl_snoc, ← eM]
        unfold Mir.stepM
        rw [← emx]
        simp [niV]
    · rintro σ H1 ⟨v3, v4, rfl, s1, hm⟩
      rw [show xs.take (xs.length : Int).toNat = xs by rw [Int.toNat_natCast, List.take_length]] at hm
      refine ⟨_, rfl, ?_⟩
      dsimp only [tNil, tCons, tC]
      exact maxdef_use (SqL.of hm) (hQ H1 s1)
end
end Ord

namespace Ord
open PySem PySem.Spec PyProof.Rows L2 LamX
/-! ### a written log of questions -/
def LogAt (H : Hp) (ps : List V) (l : Lg) : Prop := Paired (fun v z => ∃ p, v = V.ref p ∧ H p = some (.tup [z.1, z.2])) ps l
theorem LogAt.tk {H H' : Hp} {ps : List V} {l : Lg} (h : LogAt H ps l) (k : TK H H') : LogAt H' ps l := Paired.mapP h fun v z ⟨p, e1, e2⟩ => ⟨p, e1, k _ _ e2⟩
theorem LogAt.length {H : Hp} {ps : List V} {l : Lg} (h : LogAt H ps l) : ps.length = l.length := Paired.length h
theorem Paired.snoc {α β : Type} {F : α → β → Prop} {x : α} {y : β} (h : F x y) : ∀ {xs : List α} {ys : List β}, Paired F xs ys → Paired F (xs ++ [x]) (ys ++ [y])
  | _, _, .nil => .cons h .nil
  | _, _, .cons r t => .cons r (Paired.snoc h t)
theorem LogAt.snoc {H : Hp} {ps : List V} {l : Lg} {p : Addr} {x y : V} (h : LogAt H ps l) (e : H p = some (.tup [x, y])) : LogAt H (ps ++ [.ref p]) (l ++ [(x, y)]) := Paired.snoc ⟨p, rfl, e⟩ h
theorem CellV.stay {q c : Addr} {H H' : Hp} {v : V} (h : CellV H c v) (s : Stay q H H') : CellV H' c v := by
  obtain ⟨o, u, e, r⟩ := h
  exact ⟨o, u, s _ _ e (.inr True.intro), r⟩
theorem ClosAt.stay {q : Addr} {cl : List (Str × Addr)} {fr : List Str} {ws : List (Option V)} {H H' : Hp} (h : ClosAt cl fr ws H) (s : Stay q H H') : ClosAt cl fr ws H' :=
  ⟨h.len, fun b hb => by
    obtain ⟨o, v, e, r⟩ := h.all b hb
    exact ⟨o, v, s _ _ e (.inr True.intro), r⟩, h.inj, fun i y e => by
    obtain ⟨c, hc, hv⟩ := h.has i y e
    exact ⟨c, hc, fun v ev => (hv v ev).stay s⟩⟩
theorem ClosAt.out {cl : List (Str × Addr)} {fr : List Str} {ws : List (Option V)} {H : Hp} (h : ClosAt cl fr ws H) {b : Addr} {o : HO} (e : H b = some o) (n : ∀ ob, o ≠ Fz ob) : b ∉ cl.map (·.2) := fun hb => by
  obtain ⟨ob, v, e', _⟩ := h.all b hb
  rw [e] at e'
  exact n ob (Option.some.inj e')
theorem tup_fz {xs : List V} (ob : Obj) : HO.tup xs ≠ Fz ob := fun z => by cases z
theorem lst_fz {xs : List V} (ob : Obj) : HO.lst xs ≠ Fz ob := fun z => by cases z
theorem Pr.strip {cl : List (Str × Addr)} {fr : List Str} {ws : List (Option V)} {H : Hp} (h : ClosAt cl fr ws H) {x : V} {e : Int × Int} (p : Pr H x e) : Pr (strip cl H) x e := by
  obtain ⟨a, e1, e2⟩ := p
  exact ⟨a, e1, by rw [strip_out (h.out e2 tup_fz)]; exact e2⟩
theorem LogAt.get {H : Hp} : ∀ {ps : List V} {l : Lg} {i : Nat} {x : V}, LogAt H ps l → ps[i]? = some x → ∃ z, l[i]? = some z ∧ ∃ t, x = V.ref t ∧ H t = some (.tup [z.1, z.2])
  | _, _, _, _, .nil, e => by simp at e
  | _, _, 0, _, .cons r _, e => by
    simp at e
    subst e
    exact ⟨_, rfl, r⟩
  | _, _, i + 1, _, .cons _ t, e => by
    obtain ⟨z, h1, h2⟩ := LogAt.get (i := i) t (by simpa using e)
    exact ⟨z, by simpa using h1, h2⟩
/-- the end of a lambda's call that writes a question down -/
theorem relend_ask {cl : List (Str × Addr)} {fr : List Str} {ws : List (Option V)} {H : Hp} {q t : Addr} {x y : V} {ps : List V} (C : ClosAt cl fr ws H) (hq : H q = some (.lst ps)) (ht : strip cl H t = none)
    (hf : ∀ b, b ∈ cl.map (·.2) → upd (upd (strip cl H) t (.tup [x, y])) q (.lst (ps ++ [.ref t])) b = Option.none) :
    KB q H (relend cl H (upd (upd (strip cl H) t (.tup [x, y])) q (.lst (ps ++ [.ref t])))) ∧ Stay q H (upd (relend cl H (upd (upd (strip cl H) t (.tup [x, y])) q (.lst (ps ++ [.ref t])))) q (.lst ps)) ∧
    relend cl H (upd (upd (strip cl H) t (.tup [x, y])) q (.lst (ps ++ [.ref t]))) q = some (.lst (ps ++ [.ref t])) ∧ relend cl H (upd (upd (strip cl H) t (.tup [x, y])) q (.lst (ps ++ [.ref t]))) t = some (.tup [x, y]) ∧ H t = Option.none := by
  have qc : q ∉ cl.map (·.2) := C.out hq lst_fz
  have hqs : strip cl H q = some (.lst ps) := by rw [strip_out qc]; exact hq
  have qt : q ≠ t := ne_of_none hqs ht
  have tc : t ∉ cl.map (·.2) := fun z => by
    have e := hf t z
    rw [upd_ne qt.symm, upd_same] at e
    cases e
  have ht' : H t = none := by rw [strip_out tc] at ht; exact ht
  have inR : ∀ b, b ∈ cl.map (·.2) → relend cl H (upd (upd (strip cl H) t (.tup [x, y])) q (.lst (ps ++ [.ref t]))) b = H b := fun b hb => if_pos hb
  have outR : ∀ b, b ∉ cl.map (·.2) → relend cl H (upd (upd (strip cl H) t (.tup [x, y])) q (.lst (ps ++ [.ref t]))) b = upd (upd (strip cl H) t (.tup [x, y])) q (.lst (ps ++ [.ref t])) b := fun b hb => if_neg hb
  have keep : ∀ b o, b ≠ q → H b = some o → relend cl H (upd (upd (strip cl H) t (.tup [x, y])) q (.lst (ps ++ [.ref t]))) b = some o := fun b o hb e => by
    by_cases hc : b ∈ cl.map (·.2)
    · rw [inR b hc]
      exact e
    · rw [outR b hc, upd_ne hb, upd_ne (ne_of_none e ht'), strip_out hc]
      exact e
  refine ⟨⟨keep, fun b xs e => keep b _ (fun z => by
    rw [z, hq] at e
    cases e) e⟩, fun b o e f => ?_, by rw [outR q qc, upd_same], by rw [outR t tc, upd_ne qt.symm, upd_same], ht'⟩
  by_cases hb : b = q
  · rw [hb, upd_same]
    rw [hb, hq] at e
    exact e
  · rw [upd_ne hb]
    exact keep b o hb e
/-! ### the order that writes down what it is asked -/
section
variable {P : Program} {w : World} {K : PySem.W.Frag} {mg : Str → Option Value} {base : Heap}
/-- the function at f, its code, its cells, the log at q -/
def AskLog (f q c' : Addr) (pm ctv : Value) (qn : Str) (params : Arguments) (body : Expr) (scope : Scope) (cl : List (Str × Addr)) (fr : List Str) (ws : List (Option V)) (l : Lg) (H : Hp) : Prop :=
  H f = some (Fz (PySem.W.kla_obj "<lambda>" qn params body scope cl pm c' ctv)) ∧ H c' = some (CodeO c' qn) ∧ ClosAt cl fr ws H ∧ ∃ qs, H q = some (.lst qs) ∧ LogAt H qs l
theorem codeO_fz {c : Addr} {q : Str} (ob : Obj) : CodeO c q ≠ Fz ob := fun z => by
  unfold CodeO at z
  cases z
def mkOrc {f q c' : Addr} {pm ctv : Value} {qn : Str} {params : Arguments} {body : Expr} {scope : Scope} {cl : List (Str × Addr)} {ps fr : List Str} {ws : List (Option V)} (ans : Lg → V → V → Int) (Dom : V → Hp → Prop) {t : TE}
    (S : NdefX.NScope (ps ++ fr) ps fr scope) (two : ps.length = 2) (hw : ws.length = fr.length)
    (hb : ∀ us : List Value, us.length = ps.length → bindArgs (PySem.W.kla_fn "<lambda>" qn params body scope cl pm (.ref c') ctv) ⟨us, []⟩ = pure (ps.zip us))
    (dom : ∀ {x : V} {H H' : Hp}, TK H H' → Dom x H → Dom x H')
    (B : ∀ (A : Around) (outer : List Env) (s : Shared) (H0 : Hp), Room 2 (A.deeper (NdefX.envF (lamNF qn params scope cl c') f s.heap.objs.size)) → PE (NdefX.ncx CX0 P w K mg base (ps ++ fr) (lamNF qn params scope cl c') f A outer s H0 E0).nox body t)
    (hq : ∀ (x y : V) (l : Lg) (qs : List V) (H : Hp) (Q : VK), H q = some (.lst qs) → LogAt H qs l → l.length < 100000 → Dom x H → Dom y H →
      (∀ a, H a = none → Q (.int (ans l x y)) (upd (upd H a (.tup [x, y])) q (.lst (qs ++ [.ref a])))) → t (some x :: some y :: ws) H Q) : Orc P w K mg base where
  f := f
  q := q
  ans := ans
  Log := AskLog f q c' pm ctv qn params body scope cl fr ws
  Dom := Dom
  isf := fun {l H} h => ⟨_, _, _, _, h.1⟩
  isq := fun {l H} h z => by
    obtain ⟨_, _, _, qs, e, _⟩ := h
    rw [z] at e
    cases e
  stay := fun {l H H'} s h => by
    obtain ⟨h1, h2, h3, qs, h4, h5⟩ := h
    exact ⟨s _ _ h1 (.inr True.intro), s _ _ h2 (.inr (by unfold CodeO; exact True.intro)), h3.stay s, qs, s _ _ h4 (.inl rfl), h5.tk s.tk⟩
  dom := dom
  run := by
    refine fnv_lam (ps := ps) (fr := fr) (N := ps ++ fr) (ws := ws) (pm := pm) (ctv := ctv) (c' := c') (q := qn) (params := params) (body := body) (scope := scope) (cl := cl) S hb (fun vs H Q h => ?_) fun A outer s H vs Q hr h => ⟨t, B A outer s _ hr, ?_⟩
    · obtain ⟨x, y, l, rfl, ⟨h1, h2, h3, _⟩, _⟩ := h
      exact ⟨two.symm, h1, h2, h3⟩
    · obtain ⟨x, y, l, rfl, ⟨h1, h2, h3, qs, h4, h5⟩, hl, dx, dy, hQ⟩ := h
      have qc := h3.out h4 lst_fz
      have hqs : strip cl H q = some (.lst qs) := by rw [strip_out qc]; exact h4
      have kS : TK H (strip cl H) := fun b xs e => by rw [strip_out (h3.out e tup_fz)]; exact e
      have es : NdefX.startF (ps ++ fr) [x, y] ws = some x :: some y :: ws := by
        unfold NdefX.startF
        rw [List.length_append, two, hw]
        simp
      rw [es]
      refine hq x y l qs (strip cl H) _ hqs (h5.tk kS) hl (dom kS dx) (dom kS dy) fun a ha hf => ?_
      obtain ⟨kb, st, e1, e2, e3⟩ := relend_ask h3 h4 ha hf
      have fq : f ≠ q := fun z => by
        rw [z, h4] at h1
        cases h1
      have cq : c' ≠ q := fun z => by
        rw [z, h4] at h2
        exact absurd (Option.some.inj h2).symm (by unfold CodeO; intro y; cases y)
      have cl3 : ClosAt cl fr ws (relend cl H (upd (upd (strip cl H) a (.tup [x, y])) q (.lst (qs ++ [.ref a])))) := by
        refine ⟨h3.len, fun b hb => ?_, h3.inj, fun i y e => ?_⟩
        · obtain ⟨o, v, e, r⟩ := h3.all b hb
          exact ⟨o, v, by rw [show relend cl H _ b = H b from if_pos hb]; exact e, r⟩
        · obtain ⟨c, hc, hv⟩ := h3.has i y e
          refine ⟨c, hc, fun v ev => ?_⟩
          obtain ⟨o, u, e4, r⟩ := hv v ev
          exact ⟨o, u, by rw [show relend cl H _ c = H c from if_pos (lookup_mem2 hc)]; exact e4, r⟩
      exact hQ _ kb ⟨kb.keep _ _ fq h1, kb.keep _ _ cq h2, cl3, _, e1, (h5.tk kb.tk).snoc e2⟩
end
end Ord

namespace Ord
open PySem PySem.Spec PyProof.Rows L2 LamX
section
variable {X : Cx} {σ : L2.St} {H1 H2 H3 : Hp} {q : Addr}
theorem Lent.same (L : Lent X σ H1 H2) : Same H1 H2 := fun _ _ e => L.keep e
theorem Lent.fzK (L : Lent X σ H1 H2) (hq : ∀ ob, H2 q ≠ some (Fz ob)) (k : KB q H2 H3) {b : Addr} (hb : b ∈ X.env.cells.map (·.2)) : ∃ o, H3 b = some (Fz o) := by
  obtain ⟨o, v, e, _⟩ := L.fz b hb
  exact ⟨o, k.keep b _ (fun z => hq o (by rw [← z]; exact e)) e⟩
theorem Lent.out3 (L : Lent X σ H1 H2) (hq : ∀ ob, H2 q ≠ some (Fz ob)) (k : KB q H2 H3) {b : Addr} {o : HO} (e : H3 b = some o) (n : ∀ ob, o ≠ Fz ob) : b ∉ X.env.cells.map (·.2) := fun hb => by
  obtain ⟨ob, e'⟩ := L.fzK hq k hb
  rw [e] at e'
  exact n ob (Option.some.inj e')
/-- what stood ahead of the call stands behind it -/
theorem Lent.kb (L : Lent X σ H1 H2) (k : KB q H2 H3) : KB q H1 (strip X.env.cells H3) := by
  have nc : ∀ b o, H1 b = some o → b ∉ X.env.cells.map (·.2) := fun b o e hb => by
    rw [L.none_ b hb] at e
    cases e
  exact ⟨fun b o n e => by rw [strip_out (nc b o e)]; exact k.keep b o n (L.keep e), fun b xs e => by rw [strip_out (nc b _ e)]; exact k.tk b xs (L.keep e)⟩
/-- what is found behind the call is there, but the cells -/
theorem Lent.at3 (L : Lent X σ H1 H2) (hq : ∀ ob, H2 q ≠ some (Fz ob)) (k : KB q H2 H3) {b : Addr} {o : HO} (e : H3 b = some o) (n : ∀ ob, o ≠ Fz ob) : strip X.env.cells H3 b = some o := by
  rw [strip_out (L.out3 hq k e n)]
  exact e
theorem Lent.tk3 (L : Lent X σ H1 H2) (hq : ∀ ob, H2 q ≠ some (Fz ob)) (k : KB q H2 H3) : TK H3 (strip X.env.cells H3) := fun b xs e => L.at3 hq k e tup_fz
/-- a new object was not there ahead of the call -/
theorem Lent.free1 (L : Lent X σ H1 H2) {p : Addr} (n : H2 p = none) : H1 p = none := by
  by_cases hb : p ∈ X.env.cells.map (·.2)
  · exact L.none_ p hb
  · rw [← L.out p hb]
    exact n
theorem lst_nfz {H : Hp} {q : Addr} {xs : List V} (e : H q = some (.lst xs)) (ob : Obj) : H q ≠ some (Fz ob) := fun z => by
  rw [e] at z
  cases z
/-- the cells that a lambda made here captured, lent -/
theorem Lent.clos (L : Lent X σ H1 H2) {scope : Scope} {fr : List Str} {js : List Nat} (hfree : ∀ y ∈ scope.names, y.2 = .free → X.env.scope.names.lookup y.1 = some .cell ∨ X.env.scope.names.lookup y.1 = some .free)
    (hfr : ∀ y ∈ fr, (y, NameKind.free) ∈ scope.names) (hjs : js.map (fun j => X.N[j]?) = fr.map some) : ClosAt (cloFrom X.env.cells scope.names []) fr (js.map (NdefX.slotAt σ)) H2 := by
  have hf : ∀ y ∈ scope.names, y.2 = .free → ∃ c, X.env.cells.lookup y.1 = some c := fun y hy e => L.has _ (hfree y hy e)
  refine ⟨?_, fun b hb => ?_, fun x y c e1 e2 => L.inj x y c (NdefX.clo_cm hf e1) (NdefX.clo_cm hf e2), fun i y e => ?_⟩
  · have q := congrArg List.length hjs
    rw [List.length_map, List.length_map] at q
    rw [List.length_map]
    exact q
  · obtain ⟨⟨x, c⟩, hm, e⟩ := List.mem_map.mp hb
    have e : c = b := e
    subst e
    rcases cloFrom_mem hm with hm | ⟨h1, h2⟩
    · cases hm
    · obtain ⟨c1, hc⟩ := hf _ h1 rfl
      have hc : X.env.cells.lookup x = some c1 := hc
      have e2 : c = c1 := by
        rw [h2, hc]
        rfl
      subst e2
      exact L.fz _ (lookup_mem2 hc)
  · have k := hfree (y, .free) (hfr y (List.mem_of_getElem? e)) rfl
    obtain ⟨c, hc⟩ := L.has y k
    refine ⟨c, NdefX.clo_has hf (hfr y (List.mem_of_getElem? e)) hc, fun v ev => ?_⟩
    have e2 : (js.map fun j => X.N[j]?)[i]? = some (some y) := by
      rw [hjs, List.getElem?_map, e]
      rfl
    rw [List.getElem?_map] at e2 ev
    cases ej : js[i]? with
    | none =>
      rw [ej] at e2
      cases e2
    | some j =>
      rw [ej] at e2 ev
      have hj : X.N[j]? = some y := Option.some.inj (show some (X.N[j]?) = some (some y) from e2)
      have hs : σ[j]? = some (some v) := NdefX.slotAt_some (Option.some.inj (show some (NdefX.slotAt σ j) = some (some v) from ev))
      obtain ⟨c', hc', hv⟩ := L.val j y v hj hs k
      rw [hc] at hc'
      cases hc'
      exact hv
/-- the log of the questions, at the call -/
theorem Lent.log {f c' : Addr} {pm ctv : Value} {qn : Str} {params : Arguments} {body : Expr} {scope : Scope} {fr : List Str} {js : List Nat} (L : Lent X σ H1 H2)
    (hfree : ∀ y ∈ scope.names, y.2 = .free → X.env.scope.names.lookup y.1 = some .cell ∨ X.env.scope.names.lookup y.1 = some .free) (hfr : ∀ y ∈ fr, (y, NameKind.free) ∈ scope.names) (hjs : js.map (fun j => X.N[j]?) = fr.map some)
    (f1 : H1 f = some (Fz (PySem.W.kla_obj "<lambda>" qn params body scope (cloFrom X.env.cells scope.names []) pm c' ctv))) (c1 : H1 c' = some (CodeO c' qn)) {l : Lg} {qs : List V} (h4 : H1 q = some (.lst qs)) (h5 : LogAt H1 qs l) :
    AskLog f q c' pm ctv qn params body scope (cloFrom X.env.cells scope.names []) fr (js.map (NdefX.slotAt σ)) l H2 :=
  ⟨L.keep f1, L.keep c1, L.clos hfree hfr hjs, qs, L.keep h4, h5.tk (Same.tk L.same)⟩
end
theorem Tabs.kb {T : List (Addr × Str)} {q : Addr} {H H' : Hp} (t : Tabs T H) (k : KB q H H') (hq : ∀ p ∈ T, p.1 ≠ q) (hc : ∀ c x, H c = some (CodeO c x) → c ≠ q) : Tabs T H' := fun p hp => by
  obtain ⟨ps, h1, h2, h3⟩ := t p hp
  refine ⟨ps, k.keep _ _ (hq p hp) h1, h2, fun pos cv e => ?_⟩
  obtain ⟨c, e1, e2⟩ := h3 pos cv e
  exact ⟨c, e1, k.keep _ _ (hc c _ e2) e2⟩
theorem code_ne {H : Hp} {q c : Addr} {x : Str} {xs : List V} (e : H q = some (.lst xs)) (h : H c = some (CodeO c x)) : c ≠ q := fun z => by
  rw [z, e] at h
  exact absurd (Option.some.inj h) (by unfold CodeO; intro y; cases y)
theorem tbl_ne {T : List (Addr × Str)} {H : Hp} {q : Addr} {xs : List V} (e : H q = some (.lst xs)) (t : Tabs T H) : ∀ p ∈ T, p.1 ≠ q := fun p hp z => by
  obtain ⟨ps, h1, _⟩ := t p hp
  rw [z, e] at h1
  cases h1
theorem Tabs.kb1 {T : List (Addr × Str)} {q : Addr} {H H' : Hp} {xs : List V} (t : Tabs T H) (e : H q = some (.lst xs)) (k : KB q H H') : Tabs T H' := Tabs.kb t k (tbl_ne e t) fun _ _ h => code_ne e h
theorem Tabs.same {T : List (Addr × Str)} {H H' : Hp} (t : Tabs T H) (s : Same H H') : Tabs T H' := t.ext s
/-- behind a lambda's making all but the tables stands -/
theorem ExtN.keep {H H' : Hp} (e : ExtN H H') {b : Addr} {o : HO} (h : H b = some o) (n : ∀ ps, o ≠ .tbl ps) : H' b = some o := e b o h n
theorem lst_tbl {xs : List V} (ps : Array Value) : HO.lst xs ≠ .tbl ps := fun z => by cases z
theorem tup_tbl {xs : List V} (ps : Array Value) : HO.tup xs ≠ .tbl ps := fun z => by cases z
theorem ExtN.tk {H H' : Hp} (e : ExtN H H') : TK H H' := fun b xs h => e b _ h tup_tbl
theorem ExtN.sq {K : PySem.W.Frag} {H H' : Hp} {a : Addr} {xs : List V} (e : ExtN H H') (h : SqL K H a xs) : SqL K H' a xs := by
  rcases h with (h | ⟨o, h⟩) | h
  · exact .inl (.inl (e _ _ h lst_tbl))
  · exact .inl (.inr ⟨o, e _ _ h fun ps z => by cases z⟩)
  · exact .inr h
end Ord
namespace Ord
open PySem PySem.Spec PyProof.Rows L2 LamX
section
variable {P : Program} {w : World} {K : PySem.W.Frag} {mg : Str → Option Value} {base : Heap}
/-- mkOrc, the lambda read off the heap -/
def orcAt {H1 : Hp} {f q c' : Addr} {pm ctv : Value} {qn : Str} {params : Arguments} {body : Expr} {scope : Scope} {cl : List (Str × Addr)} (_f1 : H1 f = some (Fz (PySem.W.kla_obj "<lambda>" qn params body scope cl pm c' ctv)))
    (ps fr : List Str) (ws : List (Option V)) (ans : Lg → V → V → Int) (Dom : V → Hp → Prop) {t : TE}
    (S : NdefX.NScope (ps ++ fr) ps fr scope) (two : ps.length = 2) (hw : ws.length = fr.length)
    (hb : ∀ us : List Value, us.length = ps.length → bindArgs (PySem.W.kla_fn "<lambda>" qn params body scope cl pm (.ref c') ctv) ⟨us, []⟩ = pure (ps.zip us))
    (dom : ∀ {x : V} {H H' : Hp}, TK H H' → Dom x H → Dom x H')
    (B : ∀ (A : Around) (outer : List Env) (s : Shared) (H0 : Hp), Room 2 (A.deeper (NdefX.envF (lamNF qn params scope cl c') f s.heap.objs.size)) → PE (NdefX.ncx CX0 P w K mg base (ps ++ fr) (lamNF qn params scope cl c') f A outer s H0 E0).nox body t)
    (hq : ∀ (x y : V) (l : Lg) (qs : List V) (H : Hp) (Q : VK), H q = some (.lst qs) → LogAt H qs l → l.length < 100000 → Dom x H → Dom y H →
      (∀ a, H a = none → Q (.int (ans l x y)) (upd (upd H a (.tup [x, y])) q (.lst (qs ++ [.ref a])))) → t (some x :: some y :: ws) H Q) : Orc P w K mg base :=
  mkOrc (f := f) (q := q) (c' := c') (pm := pm) (ctv := ctv) (qn := qn) (params := params) (body := body) (scope := scope) (cl := cl) (ps := ps) (fr := fr) (ws := ws) ans Dom S two hw hb dom B hq
/-- as Fun.ok, the code object told -/
theorem Fun.okc {x qual : Str} {st : Stmt} {f : Addr} {fd : FuncData} {N ps : List Str} {k : Nat} {sp : Sp} {c : Addr} (F : Fun K x qual st f fd) (hc : fd.code = .ref c) (S : FnScope N ps (defScope st)) (len : ∀ vs H Q E, sp vs H Q E → vs.length = ps.length)
    (hbody : ∀ (A : Around) (outer : List Env) (s : Shared) (H : Hp) (vs : List V) (Q : VK) (E : XK), Room k (A.deeper (envOfC qual (defScope st) s.heap.objs.size f (.ref c))) → sp vs H Q E →
      ∃ t, PSs (cxOf CX0 P w K mg base N qual (defScope st) f (.ref c) A outer s H E).nox (defBody st) t ∧ t { nx := fun _ H' => Q .non H', rt := Q } (start N vs) H) : FnOk P w K mg base CX0 (k + 1) f fd ps sp := by
  obtain ⟨oc, od, kV, doc, pm, an, cdv, ct, osl, rfl, lk, hcd⟩ := F.ex
  have e : cdv = .ref c := hc
  subst e
  refine fn_of lk hcd S len fun A outer s H vs Q E hr hsp => ?_
  obtain ⟨t, h, q⟩ := hbody A outer s H vs Q E hr hsp
  exact ⟨t, h.nox, q⟩
end
end Ord
namespace Ord
open PySem PySem.Spec PyProof.Rows L2 LamX
/-- behind a call with the cells lent: what is known of the heap, the heap a letter -/
theorem lentQ_of {X : Cx} {Q : VK} {v : V} {H3 : Hp} {F : Hp → Prop} (f : F (strip X.env.cells H3)) (h : ∀ H4, F H4 → Q v H4) : lentQ X Q v H3 := h _ f
end Ord
namespace Ord
open PySem PySem.Spec PyProof.Rows L2 LamX
/-- q is no place where the list at a is tracked -/
def Apart (K : PySem.W.Frag) (q a : Addr) (xs : List V) : Prop := a ≠ q ∨ ∀ H, SqL K H a xs
theorem Apart.new {K : PySem.W.Frag} {H : Hp} {q a : Addr} {xs : List V} (h : SqL K H a xs) (n : H q = none) : Apart K q a xs := by
  rcases h with (h | ⟨o, h⟩) | h
  · exact .inl (ne_of_none h n)
  · exact .inl (ne_of_none h n)
  · exact .inr fun _ => .inr h
theorem Apart.kb {K : PySem.W.Frag} {H H' : Hp} {q a : Addr} {xs : List V} (p : Apart K q a xs) (h : SqL K H a xs) (k : KB q H H') : SqL K H' a xs := by
  rcases p with p | p
  · exact sq_keep h fun o e => k.keep a o p e
  · exact p H'
theorem Apart.wr {K : PySem.W.Frag} {H : Hp} {q a : Addr} {xs : List V} {o : HO} (p : Apart K q a xs) (h : SqL K H a xs) : SqL K (upd H q o) a xs := by
  rcases p with p | p
  · exact sq_keep h fun u e => by rw [upd_ne p]; exact e
  · exact p _
end Ord
namespace Ord
open PySem PySem.Spec PyProof.Rows L2 LamX
section
variable {X : Cx} {σ : L2.St} {H1 H2 H3 : Hp} {q : Addr}
theorem Lent.fzN (L : Lent X σ H1 H2) (hq : H1 q ≠ none) (k : KB q H2 H3) {b : Addr} (hb : b ∈ X.env.cells.map (·.2)) : ∃ o, H3 b = some (Fz o) := by
  obtain ⟨o, v, e, _⟩ := L.fz b hb
  exact ⟨o, k.keep b _ (fun z => hq (by rw [← z]; exact L.none_ b hb)) e⟩
theorem Lent.at4 (L : Lent X σ H1 H2) (hq : H1 q ≠ none) (k : KB q H2 H3) {b : Addr} {o : HO} (e : H3 b = some o) (n : ∀ ob, o ≠ Fz ob) : strip X.env.cells H3 b = some o := by
  have hb : b ∉ X.env.cells.map (·.2) := fun hb => by
    obtain ⟨ob, e'⟩ := L.fzN hq k hb
    rw [e] at e'
    exact n ob (Option.some.inj e')
  rw [strip_out hb]
  exact e
theorem Lent.tk4 (L : Lent X σ H1 H2) (hq : H1 q ≠ none) (k : KB q H2 H3) : TK H3 (strip X.env.cells H3) := fun b xs e => L.at4 hq k e tup_fz
theorem some_nn {H : Hp} {b : Addr} {o : HO} (e : H b = some o) : H b ≠ none := fun z => by
  rw [e] at z
  cases z
end
/-! ### an order that writes nothing down -/
section
variable {P : Program} {w : World} {K : PySem.W.Frag} {mg : Str → Option Value} {base : Heap}
def AnsLog (f c' : Addr) (pm ctv : Value) (qn : Str) (params : Arguments) (body : Expr) (scope : Scope) (cl : List (Str × Addr)) (fr : List Str) (ws : List (Option V)) (_ : Lg) (H : Hp) : Prop :=
  H f = some (Fz (PySem.W.kla_obj "<lambda>" qn params body scope cl pm c' ctv)) ∧ H c' = some (CodeO c' qn) ∧ ClosAt cl fr ws H
def orcNo {H1 : Hp} {f c' : Addr} {pm ctv : Value} {qn : Str} {params : Arguments} {body : Expr} {scope : Scope} {cl : List (Str × Addr)} (_f1 : H1 f = some (Fz (PySem.W.kla_obj "<lambda>" qn params body scope cl pm c' ctv)))
    (ps fr : List Str) (ws : List (Option V)) (ans : V → V → Int) (Dom : V → Hp → Prop) {t : TE}
    (S : NdefX.NScope (ps ++ fr) ps fr scope) (two : ps.length = 2) (hw : ws.length = fr.length)
    (hb : ∀ us : List Value, us.length = ps.length → bindArgs (PySem.W.kla_fn "<lambda>" qn params body scope cl pm (.ref c') ctv) ⟨us, []⟩ = pure (ps.zip us))
    (dom : ∀ {x : V} {H H' : Hp}, TK H H' → Dom x H → Dom x H')
    (B : ∀ (A : Around) (outer : List Env) (s : Shared) (H0 : Hp), Room 2 (A.deeper (NdefX.envF (lamNF qn params scope cl c') f s.heap.objs.size)) → PE (NdefX.ncx CX0 P w K mg base (ps ++ fr) (lamNF qn params scope cl c') f A outer s H0 E0).nox body t)
    (hq : ∀ (x y : V) (H : Hp) (Q : VK), Dom x H → Dom y H → Q (.int (ans x y)) H → t (some x :: some y :: ws) H Q) : Orc P w K mg base where
  f := f
  q := f
  ans := fun _ => ans
  Log := AnsLog f c' pm ctv qn params body scope cl fr ws
  Dom := Dom
  isf := fun {l H} h => ⟨_, _, _, _, h.1⟩
  isq := fun {l H} h => some_nn h.1
  stay := fun {l H H'} s h => ⟨s _ _ h.1 (.inr True.intro), s _ _ h.2.1 (.inr (by unfold CodeO; exact True.intro)), h.2.2.stay s⟩
  dom := dom
  run := by
    refine fnv_lam (ps := ps) (fr := fr) (N := ps ++ fr) (ws := ws) (pm := pm) (ctv := ctv) (c' := c') (q := qn) (params := params) (body := body) (scope := scope) (cl := cl) S hb (fun vs H Q h => ?_) fun A outer s H vs Q hr h => ⟨t, B A outer s _ hr, ?_⟩
    · obtain ⟨x, y, l, rfl, ⟨h1, h2, h3⟩, _⟩ := h
      exact ⟨two.symm, h1, h2, h3⟩
    · obtain ⟨x, y, l, rfl, ⟨h1, h2, h3⟩, hl, dx, dy, hQ⟩ := h
      have kS : TK H (strip cl H) := fun b xs e => by rw [strip_out (h3.out e tup_fz)]; exact e
      have es : NdefX.startF (ps ++ fr) [x, y] ws = some x :: some y :: ws := by
        unfold NdefX.startF
        rw [List.length_append, two, hw]
        simp
      rw [es]
      refine hq x y (strip cl H) _ (dom kS dx) (dom kS dy) fun hf => ?_
      have e : relend cl H (strip cl H) = H := by
        funext b
        by_cases hb : b ∈ cl.map (·.2)
        · exact if_pos hb
        · exact (if_neg hb).trans (strip_out hb)
      rw [e]
      exact hQ H (KB.refl _ _) ⟨h1, h2, h3⟩
theorem Lent.ans {X : Cx} {σ : L2.St} {H1 H2 : Hp} {f c' : Addr} {pm ctv : Value} {qn : Str} {params : Arguments} {body : Expr} {scope : Scope} {fr : List Str} {js : List Nat} {l : Lg} (L : Lent X σ H1 H2)
    (hfree : ∀ y ∈ scope.names, y.2 = .free → X.env.scope.names.lookup y.1 = some .cell ∨ X.env.scope.names.lookup y.1 = some .free) (hfr : ∀ y ∈ fr, (y, NameKind.free) ∈ scope.names) (hjs : js.map (fun j => X.N[j]?) = fr.map some)
    (f1 : H1 f = some (Fz (PySem.W.kla_obj "<lambda>" qn params body scope (cloFrom X.env.cells scope.names []) pm c' ctv))) (c1 : H1 c' = some (CodeO c' qn)) :
    AnsLog f c' pm ctv qn params body scope (cloFrom X.env.cells scope.names []) fr (js.map (NdefX.slotAt σ)) l H2 := ⟨L.keep f1, L.keep c1, L.clos hfree hfr hjs⟩
end
/-! ### a log as data -/
def pd2 (e : (Int × Int) × (Int × Int)) : PyData := .tuple [pd e.1, pd e.2]
def cc2 (c : V → Int × Int) (z : V × V) : (Int × Int) × (Int × Int) := (c z.1, c z.2)
theorem dp_log {K : PySem.W.Frag} {H : Hp} {c : V → Int × Int} : ∀ {ps : List V} {l : Lg}, LogAt H ps l → (∀ z ∈ l, El c z.1 H ∧ El c z.2 H) → DpAll K H ps (l.map fun z => pd2 (cc2 c z))
  | _, _, .nil, _ => .nil
  | _, _, .cons r t, h => by
    obtain ⟨p, rfl, e⟩ := r
    have hz := h _ List.mem_cons_self
    exact .cons (.tup (SqT.of e) (.cons (dp_el hz.1.1) (.cons (dp_el hz.2.1) .nil))) (dp_log t fun z hz => h z (List.mem_cons_of_mem _ hz))
theorem canLay_pd2 (e : (Int × Int) × (Int × Int)) : (pd2 e).canLay0 = true := by
  unfold pd2
  rw [PyData.canLay0, PyData.canLayAll0, PyData.canLayAll0, PyData.canLayAll0, canLay_pd, canLay_pd]
  rfl
theorem depth_pd2 (e : (Int × Int) × (Int × Int)) : (pd2 e).depth ≤ 8 := by
  have h1 := depth_pd e.1
  have h2 := depth_pd e.2
  unfold pd2
  rw [PyData.depth, PyData.depthAll, PyData.depthAll, PyData.depthAll]
  omega
theorem shaped_log {α : Type} (g : α → (Int × Int) × (Int × Int)) (xs : List α) : SeqAt.shaped (.list (xs.map fun x => pd2 (g x))) = true := by
  have a : ∀ xs : List α, PyData.canLayAll0 (xs.map fun x => pd2 (g x)) = true ∧ PyData.depthAll (xs.map fun x => pd2 (g x)) ≤ 8 := by
    intro xs
    induction xs with
    | nil => exact ⟨rfl, by simp [PyData.depthAll]⟩
    | cons x xs ih =>
      have h1 := depth_pd2 (g x)
      rw [List.map_cons, PyData.canLayAll0, PyData.depthAll, ih.1, canLay_pd2]
      refine ⟨rfl, ?_⟩
      have := ih.2
      omega
  refine shaped_of (by rw [PyData.canLay0]; exact (a xs).1) ?_
  rw [PyData.depth]
  have := (a xs).2
  omega
theorem eqv_log {α β : Type} (g : α → (Int × Int) × (Int × Int)) (g' : β → (Int × Int) × (Int × Int)) (xs : List α) (ys : List β) : PyData.eqv (.list (xs.map fun x => pd2 (g x))) (.list (ys.map fun x => pd2 (g' x))) = decide (xs.map g = ys.map g') := by
  have e2 : ∀ a b, PyData.eqv (pd2 a) (pd2 b) = decide (a = b) := fun a b => by
    unfold pd2
    rw [PyData.eqv, PyData.eqvAll, PyData.eqvAll, PyData.eqvAll, eqv_pd, eqv_pd]
    obtain ⟨a1, a2⟩ := a
    obtain ⟨b1, b2⟩ := b
    by_cases h1 : a1 = b1
    · by_cases h2 : a2 = b2
      · simp [h1, h2]
      · simp [h1, h2]
    · simp [h1]
  rw [PyData.eqv]
  induction xs generalizing ys with
  | nil => cases ys with
    | nil => rw [List.map_nil, List.map_nil, List.map_nil, PyData.eqvAll]; simp
    | cons y ys => rw [List.map_nil, List.map_cons, PyData.eqvAll]; simp
  | cons x xs ih => cases ys with
    | nil => rw [List.map_cons, List.map_nil, PyData.eqvAll]; simp
    | cons y ys =>
      rw [List.map_cons, List.map_cons, PyData.eqvAll, e2, ih]
      by_cases h1 : g x = g' y
      · by_cases h2 : xs.map g = ys.map g'
        · simp [h1, h2]
        · simp [h1, h2]
      · simp [h1]
end Ord

namespace Ord
open PySem PySem.Spec PyProof.Rows L2 LamX
/-- what stands from call to call: the order with its log, lists, elements -/
structure Held (q f c' : Addr) (ob : Obj) (qn : Str) (ps : List (Addr × List V)) (es : List V) (c : V → Int × Int) (l : Lg) (H : Hp) : Prop where
  hq : ∃ qs, H q = some (.lst qs) ∧ LogAt H qs l
  hf : H f = some (Fz ob)
  hc : H c' = some (CodeO c' qn)
  ls : ∀ p ∈ ps, H p.1 = some (.lst p.2) ∧ p.1 ≠ q
  el : Els c es H
variable {q f c' : Addr} {ob : Obj} {qn : Str} {ps : List (Addr × List V)} {es : List V} {c : V → Int × Int} {l l' : Lg} {H H' : Hp}
theorem Held.same (h : Held q f c' ob qn ps es c l H) (s : Same H H') : Held q f c' ob qn ps es c l H' := by
  obtain ⟨qs, h1, h2⟩ := h.hq
  exact ⟨⟨qs, s _ _ h1, h2.tk (Same.tk s)⟩, s _ _ h.hf, s _ _ h.hc, fun p hp => ⟨s _ _ (h.ls p hp).1, (h.ls p hp).2⟩, h.el.tk (Same.tk s)⟩
theorem Held.put (h : Held q f c' ob qn ps es c l H) {p : Addr} {zs : List V} (e : H p = some (.lst zs)) (n : p ≠ q) : Held q f c' ob qn ((p, zs) :: ps) es c l H :=
  ⟨h.hq, h.hf, h.hc, fun r hr => by
    rcases List.mem_cons.mp hr with z | z
    · rw [z]; exact ⟨e, n⟩
    · exact h.ls r z, h.el⟩
theorem Held.less {ps' : List (Addr × List V)} (h : Held q f c' ob qn ps es c l H) (s : ∀ p ∈ ps', p ∈ ps) : Held q f c' ob qn ps' es c l H := ⟨h.hq, h.hf, h.hc, fun r hr => h.ls r (s r hr), h.el⟩
theorem Held.nq (h : Held q f c' ob qn ps es c l H) {p : Addr} (n : H p = none) : p ≠ q := fun z => by
  obtain ⟨qs, h1, _⟩ := h.hq
  rw [z, h1] at n
  cases n
theorem Held.wr (h : Held q f c' ob qn ps es c l H) {qs : List V} {l' : Lg} (n : LogAt H qs l') : Held q f c' ob qn ps es c l' (upd H q (.lst qs)) := by
  obtain ⟨q0, h1, _⟩ := h.hq
  have k : TK H (upd H q (.lst qs)) := TK.wr h1 nf_lst
  have fq : f ≠ q := fun z => by
    have e := h.hf
    rw [z, h1] at e
    cases e
  have cq : c' ≠ q := code_ne h1 h.hc
  exact ⟨⟨qs, upd_same, n.tk k⟩, (upd_ne fq).trans h.hf, (upd_ne cq).trans h.hc, fun p hp => ⟨(upd_ne (h.ls p hp).2).trans (h.ls p hp).1, (h.ls p hp).2⟩, h.el.tk k⟩
theorem Held.lent {X : Cx} {σ : L2.St} {H8 H9 H10 : Hp} (h : Held q f c' ob qn ps es c l H8) (L : Lent X σ H8 H9) (kb : KB q H9 H10) (n : ∃ qs, H10 q = some (.lst qs) ∧ LogAt H10 qs l') : Held q f c' ob qn ps es c l' (strip X.env.cells H10) := by
  obtain ⟨q0, h1, _⟩ := h.hq
  obtain ⟨qs, h2, h3⟩ := n
  have nfz := lst_nfz (L.keep h1)
  have kbF := L.kb kb
  have fq : f ≠ q := fun z => by
    have e := h.hf
    rw [z, h1] at e
    cases e
  have cq : c' ≠ q := code_ne h1 h.hc
  exact ⟨⟨qs, L.at3 nfz kb h2 lst_fz, h3.tk (L.tk3 nfz kb)⟩, kbF.keep _ _ fq h.hf, kbF.keep _ _ cq h.hc, fun p hp => ⟨kbF.keep _ _ (h.ls p hp).2 (h.ls p hp).1, (h.ls p hp).2⟩, h.el.tk kbF.tk⟩
theorem Held.at3 {X : Cx} {σ : L2.St} {H8 H9 H10 : Hp} (h : Held q f c' ob qn ps es c l H8) (L : Lent X σ H8 H9) (kb : KB q H9 H10) {p : Addr} {o : HO} (e : H10 p = some o) (n : ∀ ob, o ≠ Fz ob) : strip X.env.cells H10 p = some o := by
  obtain ⟨q0, h1, _⟩ := h.hq
  exact L.at3 (lst_nfz (L.keep h1)) kb e n
theorem Held.all {X : Cx} {σ : L2.St} {H8 H9 : Hp} (h : Held q f c' ob qn ps es c l H8) (L : Lent X σ H8 H9) {xs : List V} (s : ∀ x ∈ xs, x ∈ es) : ∀ x ∈ xs, El c x H9 := fun x hx => (h.el x (s x hx)).tk (Same.tk L.same)
/-- two rows as data -/
theorem shaped_rows2 {α : Type} (g : α → Int × Int) (xs ys : List α) : SeqAt.shaped (.list [.list (xs.map fun x => pd (g x)), .list (ys.map fun x => pd (g x))]) = true := by
  have h1 := depthAll_pd g xs
  have h2 := depthAll_pd g ys
  refine shaped_of (by rw [PyData.canLay0, PyData.canLayAll0, PyData.canLayAll0, PyData.canLayAll0, PyData.canLay0, PyData.canLay0, canLayAll_pd, canLayAll_pd]; rfl) ?_
  rw [PyData.depth, PyData.depthAll, PyData.depthAll, PyData.depthAll, PyData.depth, PyData.depth]
  omega
theorem eqv_rows2 {α : Type} (g : α → Int × Int) (xs ys : List α) : PyData.eqv (.list [.list (xs.map fun x => pd (g x)), .list (ys.map fun x => pd (g x))]) (.list [.list (xs.map fun x => pd (g x)), .list (ys.map fun x => pd (g x))]) = true := by
  rw [PyData.eqv, PyData.eqvAll, PyData.eqvAll, PyData.eqvAll, eqv_row, eqv_row]
  simp
end Ord
namespace Ord
open PySem PySem.Spec PyProof.Rows L2 LamX
/-- the object and its name, as letters -/
theorem held_ex {q f c' : Addr} {ob : Obj} {qn : Str} {ps : List (Addr × List V)} {es : List V} {c : V → Int × Int} {l : Lg} {H : Hp} (h : Held q f c' ob qn ps es c l H) : ∃ ob' qn', ob' = ob ∧ qn' = qn ∧ Held q f c' ob' qn' ps es c l H := ⟨_, _, rfl, rfl, h⟩
end Ord

namespace Ord
open PySem PySem.Spec PyProof.Rows L2 LamX
section
variable {P : Program} {w : World} {K : PySem.W.Frag} {mg : Str → Option Value} {base : Heap}
def N_law : List Str := ["_law_script", "_law_more", "_law_way", "_law_row_here", "_law_kept", "_law_asked", "_law_order", "_law_due", "_law_k", "_law_j", "_law_places", "_law_one", "_law_place"]
theorem sc_law : FnScope ["_law_script", "_law_more", "_law_way", "_law_row_here", "_law_kept", "_law_asked", "_law_order", "_law_due", "_law_k", "_law_j", "_law_places", "_law_one", "_law_place"] ["_law_script"] (defScope st_law) := ⟨rfl, rfl, rfl, by decide +kernel, rfl, by decide +kernel, by decide +kernel⟩
theorem asc_len : ∀ (pl : List Nat) (n lo : Nat), (∀ i ∈ pl, lo ≤ i ∧ i < n) → pl.Pairwise (· < ·) → pl.length + lo ≤ max n lo
  | [], n, lo, _, _ => by rw [List.length_nil]; omega
  | x :: xs, n, lo, h, hp => by
    obtain ⟨h1, h2⟩ := List.pairwise_cons.mp hp
    have hx := h x List.mem_cons_self
    have ih := asc_len xs n (x + 1) (fun i hi => ⟨h1 i hi, (h i (List.mem_cons_of_mem _ hi)).2⟩) h2
    rw [List.length_cons]
    omega
def qlam : Str := "law.<locals>.<lambda>"
def spLaw (K : PySem.W.Frag) (Pt : Addr) : Sp := fun vs H Q _ => ∃ (a : Addr) (ns : List Int), vs = [.ref a] ∧ SqL K H a (ns.map V.int) ∧ ns.length ≤ 63 ∧ H Pt = some (.tbl #[]) ∧ ∀ H', Q (.bl true) H'
theorem ok_law {c Pt : Addr} (d_law : Df K mg "law" st_law ["_law_script"]) (d_turned_pairs : Df K mg "turned_pairs" st_turned_pairs ["row", "order"]) (d_counted : Df K mg "counted" st_counted ["row", "order"]) (d_rising : Df K mg "rising" st_rising ["row", "order"]) (d__law_cell : Df K mg "_law_cell" st__law_cell ["_law_script", "_law_k"]) (d__law_drawn : Df K mg "_law_drawn" st__law_drawn ["_law_cell_here", "_law_k"]) (d__law_answer : Df K mg "_law_answer" st__law_answer ["_law_way", "_law_one", "_law_other"]) (d__law_ask : Df K mg "_law_ask" st__law_ask ["_law_asked", "_law_way", "_law_one", "_law_other"]) (d__law_log : Df K mg "_law_log" st__law_log ["_law_many"]) (d__law_row : Df K mg "_law_row" st__law_row ["_law_script", "_law_start", "_law_many", "_law_spread"]) (d__law_size : Df K mg "_law_size" st__law_size ["_law_script", "_law_most"]) (d__law_sorted : Df K mg "_law_sorted" st__law_sorted ["_law_row_here", "_law_way"]) (d__law_longest : Df K mg "_law_longest" st__law_longest ["_law_row_here", "_law_way"])
    (mLen : mg "len" = none) (mList : mg "list" = none) (mInt : mg "int" = none) (mAbs : mg "abs" = none) (mMin : mg "min" = none) (mMax : mg "max" = none) (mRange : mg "range" = none) (mAll : mg "all" = none) (mIsi : mg "isinstance" = none) (mReversed : mg "reversed" = none)
    (TB : TabB base mg c Pt) (hc : d_law.fd.code = .ref c) : FnOk P w K mg base CX0 20 d_law.f d_law.fd ["_law_script"] (spLaw K Pt) := by
  have G__law_cell : FnOk P w K mg base CX0 1 d__law_cell.f d__law_cell.fd ["_law_script", "_law_k"] (spCellK K) := ok_cell d__law_cell mLen
  have G__law_drawn : FnOk P w K mg base CX0 1 d__law_drawn.f d__law_drawn.fd ["_law_cell_here", "_law_k"] spDrawn := ok_drawn d__law_drawn
  have G__law_answer : FnOk P w K mg base CX0 1 d__law_answer.f d__law_answer.fd ["_law_way", "_law_one", "_law_other"] spAnswer := ok_answer d__law_answer mInt mAbs
  have G__law_ask : FnOk P w K mg base CX0 2 d__law_ask.f d__law_ask.fd ["_law_asked", "_law_way", "_law_one", "_law_other"] spAskK := ok_ask d__law_ask d__law_answer mInt mAbs
  have G__law_log : FnOk P w K mg base CX0 1 d__law_log.f d__law_log.fd ["_law_many"] spLog := ok_log d__law_log
  have G__law_row : FnOk P w K mg base CX0 2 d__law_row.f d__law_row.fd ["_law_script", "_law_start", "_law_many", "_law_spread"] (spRowK K) := ok_row d__law_row d__law_cell d__law_drawn mLen mRange
  have G__law_size : FnOk P w K mg base CX0 2 d__law_size.f d__law_size.fd ["_law_script", "_law_most"] (spSizeK K) := ok_size d__law_size d__law_cell d__law_drawn mLen mMin
  have G__law_sorted : FnOk P w K mg base CX0 2 d__law_sorted.f d__law_sorted.fd ["_law_row_here", "_law_way"] (spSorted K) := ok_sorted d__law_sorted d__law_answer mLen mInt mAbs
  have G__law_longest : FnOk P w K mg base CX0 2 d__law_longest.f d__law_longest.fd ["_law_row_here", "_law_way"] (spLongest K) := ok_longest d__law_longest d__law_answer mLen mInt mAbs mMax mRange
  have G_turned_pairs : FnOk P w K mg base CX0 11 d_turned_pairs.f d_turned_pairs.fd ["row", "order"] (spTurned P w K mg base) := ok_turned d_turned_pairs d_counted mLen mList
  have G_rising : FnOk P w K mg base CX0 4 d_rising.f d_rising.fd ["row", "order"] (spRising P w K mg base) := ok_rising d_rising mLen mList mRange mReversed
  refine Fun.okc d_law.F hc sc_law (fun vs H Q E h => ?_) (fun A outer s H vs Q E hr h => ?_)
  · obtain ⟨a, ns, rfl, _⟩ := h
    rfl
  · obtain ⟨a, ns, rfl, hS, hz, hP, hQ⟩ := h
    have nd := sc_law.nd
    obtain ⟨X, eX⟩ : ∃ X, X = (cxOf CX0 P w K mg base N_law "law" (defScope st_law) d_law.f (.ref c) A outer s H E).nox := ⟨_, rfl⟩
    have un : UniqC X.env.cells := by
      rw [eX]
      exact uniq_cells (by decide +kernel)
    have hfn : ∀ x, X.fn x = true := by
      rw [eX]
      exact fun _ => rfl
    subst eX
    refine ⟨_, (pss_cons (ps_set (i := 1) nd rfl (Or.inl rfl) (pe_cd (d := d__law_drawn) G__law_drawn (hr.mono (by decide)) (pa_cons (pe_cd (d := d__law_cell) G__law_cell (hr.mono (by decide)) (pa_cons (pv 0) (pa_cons pe_int pa_nil))) (pa_cons pe_int pa_nil))))
  (pss_cons (ps_set (i := 2) nd rfl (Or.inr rfl) (pe_op op_modE (pv 1) pe_int))
  (pss_cons (ps_set (i := 3) nd rfl (Or.inr rfl) (pe_cd (d := d__law_row) G__law_row (hr.mono (by decide)) (pa_cons (pv 0) (pa_cons pe_int (pa_cons (pe_cd (d := d__law_size) G__law_size (hr.mono (by decide)) (pa_cons (pv 0) (pa_cons pe_int pa_nil))) (pa_cons (pe_ix ix_list (pe_lst (pa_cons pe_int (pa_cons pe_int (pa_cons pe_int (pa_cons pe_int pa_nil))))) (pe_op op_modE (pe_op op_fdivE (pv 1) pe_int) pe_int) (fun _ _ => rfl)) pa_nil))))))
  (pss_cons (ps_set (i := 4) nd rfl (Or.inl rfl) (pe_callTy call_list_of (by rfl) mList (by decide +kernel) (pa_cons (pv 3) pa_nil)))
  (pss_cons (ps_set (i := 5) nd rfl (Or.inr rfl) (pe_lst pa_nil))
  (pss_cons (ps_set (i := 6) nd rfl (Or.inl rfl) (pe_lam (T := [(Pt, qlam)]) (q := qlam) (show ("law.<locals>." : Str) ++ "<lambda>" = qlam by decide +kernel) TB rfl (List.mem_singleton.mpr rfl) (fun p hp _ => by rw [List.mem_singleton.mp hp]) rfl (NdefX.ndef_free (sc := defScope st_law) (fr := []) (by decide +kernel))))
  (pss_cons (ps_set (i := 7) nd rfl (Or.inl rfl) pe_int)
  (pss_cons (ps_for PassesOwn.never rfl (pi_range1 (by rfl) mRange (pa_cons (pe_len mLen (pv 3)) pa_nil)) (pg_name (i := 8) nd rfl (Or.inr rfl))
    (pss_one (ps_set (i := 7) nd rfl (Or.inl rfl) (pe_op op_addE (pv 7) (pe_len mLen (pe_lc (own := [("_law_j", 9)]) (g := gName 9) rfl nd (pi_range1 (by rfl) mRange (pa_cons (pv 8) pa_nil)) (blkOk_by (own := [("_law_j", 9)]) (N := N_law) (sc := defScope st_law) (by decide +kernel)) (fun _ _ _ _ _ => pg_name (i := 9) nd rfl (Or.inl rfl)) (fun _ _ _ _ _ => pts_one (pt_cmpR op_gt (pe_cd (d := d__law_answer) G__law_answer (hr.mono (by decide)) (pa_cons (pv 2) (pa_cons (pe_ix (ix_listK (K := K)) (pv 3) (pv 9) (fun _ _ => rfl)) (pa_cons (pe_ix (ix_listK (K := K)) (pv 3) (pv 8) (fun _ _ => rfl)) pa_nil)))) pe_int (nomark _))) (fun _ _ _ _ _ => (pv 9))))))))
  (pss_cons (ps_if (PW.pt (pw_or (pt_cmpR op_ne (pe_cdLent (d := d_turned_pairs) G_turned_pairs (hr.mono (by decide)) un hfn (pa_cons (pv 3) (pa_cons (pv 6) pa_nil))) (pv 7) (nomark _)) (pw_or1 (pt_cmpR op_gt (pe_len mLen (pv 5)) (pe_op op_mulE (pe_len mLen (pv 3)) (pe_cd (d := d__law_log) G__law_log (hr.mono (by decide)) (pa_cons (pe_len mLen (pv 3)) pa_nil))) (nomark _)))))
    (pss_one (ps_ret pe_bl))
    pss_nil)
  (pss_cons (ps_expr (pe_bm0 PySem.F.plainAttrs_list PySem.F.slot_list_clear PySem.F.type_list_clear mt_clear (pv 5)))
  (pss_cons (ps_set (i := 10) nd rfl (Or.inl rfl) (pe_cdLent (d := d_rising) G_rising (hr.mono (by decide)) un hfn (pa_cons (pv 3) (pa_cons (pv 6) pa_nil))))
  (pss_cons (ps_if (PW.pt (pw_or (pt_not (pt_val (pe_callB call_isi (by rfl) mIsi (by decide +kernel) (pa_cons (pv 10) (pa_cons (pe_bltn (v := .ty "list") (by rfl) mList (by decide +kernel) rfl) pa_nil))))) (pw_or1 (pt_cmpR op_ne (pe_len mLen (pv 10)) (pe_cd (d := d__law_longest) G__law_longest (hr.mono (by decide)) (pa_cons (pv 3) (pa_cons (pv 2) pa_nil))) (nomark _)))))
    (pss_one (ps_ret pe_bl))
    pss_nil)
  (pss_cons (ps_if (PW.pt (pw_or (pt_cmpR op_gt (pe_len mLen (pv 5)) (pe_op op_mulE (pe_len mLen (pv 3)) (pe_cd (d := d__law_log) G__law_log (hr.mono (by decide)) (pa_cons (pe_op op_addE (pe_len mLen (pv 3)) pe_int) pa_nil))) (nomark _)) (pw_or1 (pt_cmpR (op_neD hr.units) (pv 3) (pv 4) (nomark _)))))
    (pss_one (ps_ret pe_bl))
    pss_nil)
  (pss_cons (ps_for PassesOwn.never rfl (pi_range2 (by rfl) mRange (pa_cons pe_int (pa_cons (pe_len mLen (pv 10)) pa_nil))) (pg_name (i := 8) nd rfl (Or.inr rfl))
    (pss_cons (ps_set (i := 11) nd rfl (Or.inl rfl) (pe_ix ix_list (pv 10) (pe_op op_subE (pv 8) pe_int) (fun _ _ => rfl)))
  (pss_one (ps_if (PW.pt (pw_or (pt_cmpR op_ge (pv 11) (pe_ix ix_list (pv 10) (pv 8) (fun _ _ => rfl)) (nomark _)) (pw_or1 (pt_cmpR op_ge (pe_cd (d := d__law_answer) G__law_answer (hr.mono (by decide)) (pa_cons (pv 2) (pa_cons (pe_ix ix_list (pv 3) (pv 11) (fun _ _ => rfl)) (pa_cons (pe_ix ix_list (pv 3) (pe_ix ix_list (pv 10) (pv 8) (fun _ _ => rfl)) (fun _ _ => rfl)) pa_nil)))) pe_int (nomark _)))))
    (pss_one (ps_ret pe_bl))
    pss_nil))))
  (pss_one (ps_ret (pe_callB (cr_all rfl) (by rfl) mAll (by decide +kernel) (pa_cons (pe_lc (own := [("_law_place", 12)]) (g := gName 12) rfl nd (pi_list (pv 10)) (blkOk_by (own := [("_law_place", 12)]) (N := N_law) (sc := defScope st_law) (by decide +kernel)) (fun _ _ _ _ _ => pg_name (i := 12) nd rfl (Or.inl rfl)) (fun _ _ _ _ _ => pts_nil) (fun _ _ _ _ _ => (pe_chain op_le op_lt pe_int (pv 12) (pe_lenK (K := K) mLen (pv 3))))) pa_nil)))))))))))))))))), ?_⟩
    have hz' : ns.length ≤ 1000 := by omega
    -- the draw
    refine ⟨_, rfl, a, ns, 0, rfl, hS, hz', fun H1 s1 => ⟨_, 1, rfl, ?_⟩⟩
    obtain ⟨m, em⟩ : ∃ m, m = Mir.drawn (Mir.cellI ns 0) 1 := ⟨_, rfl⟩
    have hd := Mir.drawn_nn (Mir.cellI ns 0) 1
    rw [← em] at hd ⊢
    obtain ⟨way, ew⟩ : ∃ way, way = m % 6 := ⟨_, rfl⟩
    refine ⟨_, rfl, _, _, way, rfl, rfl, (by show (0 : Int) < 6; decide), ew, ?_⟩
    -- the row
    refine ⟨_, rfl, _, rfl, a, ns, 40, rfl, s1.seq hS, hz', by decide, by decide, fun H2 n s2 hn => ?_⟩
    have s12 := s1.trans s2
    refine ⟨by show 4 ≤ sizeLine; decide, fun p np => ?_⟩
    have s13 := s12.trans (Same.new (o := .lst [.int 2, .int 5, .int 10, .int 1000]) np)
    obtain ⟨r, hr4, er⟩ : ∃ r : Nat, r < 4 ∧ m / 8 % 4 = (r : Int) := ⟨(m / 8 % 4).toNat, by omega, by omega⟩
    obtain ⟨spv, esp, hsp0, hsp1⟩ : ∃ spv : Int, atI [V.int 2, V.int 5, V.int 10, V.int 1000] (r : Int) = some (.int spv) ∧ 0 < spv ∧ spv ≤ 1000000 := by
      have hh : r = 0 ∨ r = 1 ∨ r = 2 ∨ r = 3 := by omega
      rcases hh with h | h | h | h <;> subst h
      · exact ⟨2, rfl, by decide, by decide⟩
      · exact ⟨5, rfl, by decide, by decide⟩
      · exact ⟨10, rfl, by decide, by decide⟩
      · exact ⟨1000, rfl, by decide, by decide⟩
    refine ⟨_, rfl, _, _, _, rfl, rfl, ⟨by decide, by decide⟩, rfl, _, _, (r : Int), rfl, rfl, (by show (0 : Int) < 4; decide), er.symm, p, _, _, _, rfl, rfl, SqL.of upd_same, esp, ?_⟩
    refine ⟨a, ns, 0, n, spv, rfl, s13.seq hS, hz', by omega, hsp0, hsp1, fun H3 rw xs cc s3 nrw hrw hxl hE _ => ?_⟩
    have s14 := s13.trans s3
    have lx : xs.length ≤ 40 := by omega
    obtain ⟨key, ekey⟩ : ∃ key, key = kyc way cc := ⟨_, rfl⟩
    -- kept, asked
    refine ⟨_, rfl, rw, xs, rfl, .inl (SqL.of hrw), fun kp nkp => ?_⟩
    refine ⟨Nat.zero_le _, fun q nq => ?_⟩
    have sQ := Same.new (o := .lst []) nq
    have sA : Same H3 _ := (Same.new (o := .lst xs) nkp).trans sQ
    have sB := s14.trans sA
    have hrwA := sA _ _ hrw
    have hkpA := sQ _ _ (upd_same (H := H3) (a := kp) (o := .lst xs))
    have hqA : upd (upd H3 kp (.lst xs)) q (.lst []) q = some (.lst []) := upd_same
    have rwq : rw ≠ q := ne_of_none (kn nkp hrw) nq
    have kpq : kp ≠ q := ne_of_none upd_same nq
    have TA : Tabs [(Pt, qlam)] (upd (upd H3 kp (.lst xs)) q (.lst [])) := fun p hp => by rw [List.mem_singleton.mp hp]; exact TabS.nil (sB _ _ hP)
    have hEA := hE.tk (Same.tk sA)
    obtain ⟨H6, e6⟩ : ∃ H6, H6 = upd (upd H3 kp (.lst xs)) q (.lst []) := ⟨_, rfl⟩
    rw [← e6] at hrwA hkpA hqA TA hEA ⊢
    clear e6 sB sA sQ nq nkp s14 s13 s12 s3 s2 s1 hS hrw nrw hE hP
    -- the order
    refine ⟨TA, fun f c' pm ctv H8 ext nn T8 f0 f8 c8 => ?_⟩
    have h8 : Held q f c' _ _ [(rw, xs), (kp, xs)] xs cc [] H8 := ⟨⟨[], ext _ _ hqA lst_tbl, .nil⟩, f8, c8, fun p hp => by
      simp only [List.mem_cons, List.not_mem_nil, or_false] at hp
      rcases hp with z | z <;> rw [z]
      · exact ⟨ext _ _ hrwA lst_tbl, rwq⟩
      · exact ⟨ext _ _ hkpA lst_tbl, kpq⟩, hEA.tk (ExtN.tk ext)⟩
    let O : Orc P w K mg base := orcAt f8 ["_law_one", "_law_other"] ["_law_asked", "_law_way"] [some (.ref q), some (.int way)] (fun _ x y => Mir.ansI way (cc x) (cc y)) (El cc) (NdefX.nscope_by (by decide +kernel)) rfl rfl
      (fun us hl => match us, hl with | [_, _], _ => rfl) (fun k h => h.tk k)
      (fun A outer s H0 hr => pe_cd (d := d__law_ask) G__law_ask hr (pa_cons (pv 2) (pa_cons (pv 3) (pa_cons (pv 0) (pa_cons (pv 1) pa_nil)))))
      (fun x y l qs H Q h1 h2 h3 dx dy hQ => ⟨_, rfl, _, rfl, _, rfl, _, rfl, q, way, x, y, cc x, cc y, qs, rfl, h1, by have := h2.length; omega, dx.1, dy.1, dx.2.1, dy.2.1, hQ⟩)
    have kA : Mir.KeyA O.ans key := by rw [ekey]; exact Mir.keyA_of way cc
    clear hrwA hkpA hqA TA hEA ext nn T8 f0 c8 rwq kpq
    obtain ⟨ob, qn, eob, eqn, ha⟩ := held_ex h8
    clear h8
    -- due
    refine ⟨_, rfl, rw, xs, rfl, .inl (SqL.of (ha.ls (rw, xs) (by simp)).1), (xs.length : Int), rfl, by omega, by omega, ?_⟩
    refine for_range (lo := 0) (n := (xs.length : Int).toNat) (fun i σ H' => ∃ (v8 v9 : Option V), σ = [some (.ref a), some (.int m), some (.int way), some (.ref rw), some (.ref kp), some (.ref q), some (.ref f), some (.int (Mir.inv key (xs.take i) : Nat)), v8, v9, none, none, none] ∧ Same H8 H') ⟨none, none, rfl, fun _ _ e => e⟩ ?_ ?_
    · rintro i σ H1 hi ⟨v8, v9, rfl, s1⟩
      rw [show ((0 : Int) + (i : Nat)) = ((i : Nat) : Int) from Int.zero_add _]
      have hi' : i < xs.length := by omega
      obtain ⟨e, ee⟩ : ∃ e, xs[i]? = some e := ⟨_, List.getElem?_eq_getElem hi'⟩
      have h1 := ha.same s1
      have et : xs.take (i + 1) = xs.take i ++ [e] := by rw [List.take_add_one, ee]; rfl
      refine ⟨_, rfl, _, rfl, (i : Int), rfl, by omega, by omega, fun D hD => ?_⟩
      refine lc_range (lo := 0) (n := (i : Int).toNat) (fun j H3 => ∃ zs, Same H1 H3 ∧ H3 D = some (.lst zs) ∧ zs.length = Mir.abv key (xs.take j) e) ⟨[], Same.new hD, upd_same, rfl⟩ ?_ ?_
      · rintro j H3 hj ⟨zs, s3, h3, hz3⟩
        rw [show ((0 : Int) + (j : Nat)) = ((j : Nat) : Int) from Int.zero_add _]
        have hj' : j < i := by omega
        obtain ⟨x, ex⟩ : ∃ x, xs[j]? = some x := ⟨_, List.getElem?_eq_getElem (by omega)⟩
        have g := h1.same s3
        have hx := g.el x (List.mem_of_getElem? ex)
        have he := g.el e (List.mem_of_getElem? ee)
        have hS3 : SqL K H3 rw xs := SqL.of (g.ls (rw, xs) (by simp)).1
        have etj : xs.take (j + 1) = xs.take j ++ [x] := by rw [List.take_add_one, ex]; rfl
        have ab : Mir.abv key (xs.take (j + 1)) e = Mir.abv key (xs.take j) e + (if key e < key x then 1 else 0) := by rw [etj, Mir.abv_append, Mir.abv_cons, Mir.abv_nil, Nat.add_zero]
        have al : Mir.abv key (xs.take j) e ≤ 40 := by unfold Mir.abv; refine Nat.le_trans (List.length_filter_le _ _) ?_; rw [List.length_take]; omega
        refine ⟨rfl, ?_⟩
        refine ⟨_, rfl, _, rfl, _, rfl, rw, xs, _, x, rfl, rfl, hS3, atI_nat ex, _, rfl, _, rfl, rw, xs, _, e, rfl, rfl, hS3, atI_nat ee, way, x, e, cc x, cc e, rfl, hx.1, he.1, hx.2.1, he.2.1, _, _, rfl, rfl, _, rfl, ?_⟩
        have ea : 0 < Mir.ansI way (cc x) (cc e) ↔ key e < key x := by rw [ekey]; exact (Mir.ansI_pos way _ _).1
        refine iteD (fun h => ?_) (fun h => ?_)
        · refine ⟨_, rfl, _, h3, small1000 (by omega), _, fun b o eo => ?_, upd_same, by rw [List.length_append, ab, if_pos (ea.mp h), hz3]; rfl⟩
          rw [upd_ne (ne_of_none eo hD)]
          exact s3 _ _ eo
        · exact ⟨zs, s3, h3, by rw [ab, if_neg (fun z => h (ea.mpr z)), hz3]; rfl⟩
      · rintro H3 ⟨zs, s3, h3, hz3⟩
        rw [Int.toNat_natCast] at hz3
        refine ⟨D, zs, rfl, .inl (SqL.of h3), _, _, ((Mir.inv key (xs.take (i + 1)) : Nat) : Int), rfl, rfl, (by show ((Mir.inv key (xs.take (i + 1)) : Nat) : Int) = ((Mir.inv key (xs.take i) : Nat) : Int) + (zs.length : Int); rw [et, Mir.inv_snoc, hz3]; omega), ?_⟩
        exact ⟨_, _, rfl, s1.trans s3⟩
    rintro σ H1 ⟨v8, v9, rfl, s1⟩
    rw [Int.toNat_natCast, List.take_length]
    have hb := ha.same s1
    clear ha
    -- turned_pairs
    refine ⟨_, rfl, _, rfl, ?_⟩
    intro H9 L
    obtain ⟨qs, hq8, lg8⟩ := hb.hq
    have hL0 : O.Log [] H9 := L.log (js := [5, 2]) (NdefX.ndef_free (sc := defScope st_law) (fr := ["_law_asked", "_law_way"]) (by decide +kernel)) (NdefX.ndef_fr (sc := defScope st_law) (fr := ["_law_asked", "_law_way"]) (by decide +kernel)) rfl (by have e := hb.hf; rw [eob] at e; exact e) (by have e := hb.hc; rw [eqn] at e; exact e) hq8 lg8
    have hRw : Row K O.q H9 rw xs := Row.of (L.keep (hb.ls (rw, xs) (by simp)).1) (hb.ls (rw, xs) (by simp)).2
    have hAl : O.All xs H9 := hb.all L (fun x hx => hx)
    have hnl : xs.length * Mir.clog xs.length ≤ 40 * 6 := Nat.mul_le_mul lx (Mir.clog_le.mpr (by omega))
    refine ⟨O, rw, xs, [], rfl, hRw, hL0, hAl, by omega, by show 0 + _ ≤ _; omega, fun H10 kb hL => ?_⟩
    have eC := (Mir.ctd_len O.ans _ xs [] (Nat.le_refl _)).2.2.2.1
    have eI := (Mir.ctd_key (ans := O.ans) kA _ xs [] (Nat.le_refl _)).2.2
    obtain ⟨l1, el1⟩ : ∃ l1, l1 = (Mir.ctd O.ans xs []).2.1 := ⟨_, rfl⟩
    rw [eI]
    rw [← el1] at eC hL
    obtain ⟨_, _, _, hq10⟩ := hL
    refine lentQ_of (F := fun H11 => Held q f c' ob qn [(rw, xs), (kp, xs)] xs cc l1 H11) (hb.lent L kb hq10) fun Z1 hc1 => ?_
    clear hq10 hAl hRw hL0 lg8 hq8 qs L hb kb
    refine ⟨_, rfl, rfl, _, rfl, ?_⟩
    rw [decide_eq_true rfl]
    refine iteF ?_
    obtain ⟨qs0, hq0, lg0⟩ := hc1.hq
    have ll := lg0.length
    obtain ⟨bd, ebd⟩ : ∃ bd, bd = xs.length * Mir.clog xs.length := ⟨_, rfl⟩
    rw [← ebd] at eC hnl
    refine ⟨_, rfl, q, qs0, rfl, .inl (SqL.of hq0), _, rfl, rw, xs, rfl, .inl (SqL.of (hc1.ls (rw, xs) (by simp)).1), _, rfl, rw, xs, rfl, .inl (SqL.of (hc1.ls (rw, xs) (by simp)).1), xs.length, rfl, by omega, _, _, ((bd : Nat) : Int), rfl, rfl, .inl ⟨by omega, by omega⟩, (by show ((bd : Nat) : Int) = (xs.length : Int) * (Mir.clog xs.length : Int); rw [ebd]; exact Int.natCast_mul _ _), _, _, rfl, rfl, _, rfl, ?_⟩
    refine iteD (fun h => ?_) (fun _ => ?_)
    · have h' : ((bd : Nat) : Int) < (qs0.length : Int) := h
      simp only [List.length_nil] at eC
      omega
    -- clear
    refine ⟨_, rfl, .inl ⟨rfl, _, SqL.of hq0⟩, q, qs0, rfl, rfl, hq0, ?_⟩
    have hd1 := hc1.wr (qs := []) .nil
    obtain ⟨H7, e7⟩ : ∃ H7, H7 = upd Z1 q (.lst []) := ⟨_, rfl⟩
    rw [← e7] at hd1 ⊢
    clear e7 hq0 lg0 ll hc1 eC eI el1
    -- rising
    refine ⟨_, rfl, _, rfl, ?_⟩
    intro H9 L
    obtain ⟨qs, hq8, lg8⟩ := hd1.hq
    have hL0 : O.Log [] H9 := L.log (js := [5, 2]) (NdefX.ndef_free (sc := defScope st_law) (fr := ["_law_asked", "_law_way"]) (by decide +kernel)) (NdefX.ndef_fr (sc := defScope st_law) (fr := ["_law_asked", "_law_way"]) (by decide +kernel)) rfl (by have e := hd1.hf; rw [eob] at e; exact e) (by have e := hd1.hc; rw [eqn] at e; exact e) hq8 lg8
    have hRw : Row K O.q H9 rw xs := Row.of (L.keep (hd1.ls (rw, xs) (by simp)).1) (hd1.ls (rw, xs) (by simp)).2
    have hAl : O.All xs H9 := hd1.all L (fun x hx => hx)
    have hnl : xs.length * Mir.clog (xs.length + 1) ≤ 40 * 6 := Nat.mul_le_mul lx (Mir.clog_le.mpr (by omega))
    refine ⟨O, rw, xs, [], rfl, hRw, hL0, hAl, by omega, by show 0 + _ ≤ _; omega, fun H10 p pl l2 kb np hp hL hl hpm hpp hpr => ?_⟩
    obtain ⟨_, _, _, hq10⟩ := hL
    refine lentQ_of (F := fun H11 => Held q f c' ob qn [(rw, xs), (kp, xs)] xs cc l2 H11 ∧ H11 p = some (.lst (niV pl))) ⟨hd1.lent L kb hq10, hd1.at3 L kb hp lst_fz⟩ fun Z2 ⟨he1, hp2⟩ => ?_
    clear hq10 hAl hRw hL0 lg8 hq8 qs L hd1 kb np hp
    obtain ⟨hpl, hpk⟩ := hpr key kA
    have lpl : (niV pl).length = pl.length := List.length_map ..
    refine ⟨_, rfl, .ref p, .ty "list", _, _, true, rfl, .ty _, .base (.lst hp2), kit_ty (by decide +kernel), _, rfl, ?_⟩
    refine iteF ?_
    refine ⟨_, rfl, p, niV pl, rfl, .inl (SqL.of hp2), _, rfl, _, rfl, rw, xs, way, cc, rfl, SqL.of (he1.ls (rw, xs) (by simp)).1, he1.el, by omega, fun Z3 s3 => ?_⟩
    rw [← ekey, ← hpl, lpl]
    refine ⟨rfl, _, rfl, ?_⟩
    rw [decide_eq_true rfl]
    refine iteF ?_
    have hf1 := he1.same s3
    have hp3 := s3 _ _ hp2
    clear he1 hp2 s3
    obtain ⟨qs0, hq0, lg0⟩ := hf1.hq
    have ll := lg0.length
    obtain ⟨bd, ebd⟩ : ∃ bd, bd = xs.length * Mir.clog (xs.length + 1) := ⟨_, rfl⟩
    rw [← ebd] at hl hnl
    refine ⟨_, rfl, q, qs0, rfl, .inl (SqL.of hq0), _, rfl, rw, xs, rfl, .inl (SqL.of (hf1.ls (rw, xs) (by simp)).1), _, rfl, rw, xs, rfl, .inl (SqL.of (hf1.ls (rw, xs) (by simp)).1), _, _, ((xs.length + 1 : Nat) : Int), rfl, rfl, rfl, xs.length + 1, rfl, by omega, _, _, ((bd : Nat) : Int), rfl, rfl, .inl ⟨by omega, by omega⟩, (by show ((bd : Nat) : Int) = (xs.length : Int) * (Mir.clog (xs.length + 1) : Int); rw [ebd]; exact Int.natCast_mul _ _), _, _, rfl, rfl, _, rfl, ?_⟩
    refine iteD (fun h => ?_) (fun _ => ?_)
    · have h' : ((bd : Nat) : Int) < (qs0.length : Int) := h
      simp only [List.length_nil] at hl
      omega
    clear hq0 lg0 ll
    refine ⟨_, rfl, _, rfl, _, _, dp_row (SqL.of (hf1.ls (rw, xs) (by simp)).1) hf1.el, dp_row (SqL.of (hf1.ls (kp, xs) (by simp)).1) hf1.el, shaped_row cc _, shaped_row cc _, _, rfl, ?_⟩
    rw [eqv_row, decide_eq_true rfl]
    refine iteF ?_
    -- the neighbours
    have lpx : pl.length ≤ 40 := by
      have h := asc_len pl xs.length 0 (fun i hi => ⟨Nat.zero_le _, hpm i hi⟩) hpp
      omega
    refine ⟨_, rfl, p, niV pl, rfl, .inl (SqL.of hp3), (1 : Int), (pl.length : Int), by rw [lpl], ⟨by omega, by omega, by omega, by omega⟩, ?_⟩
    refine for_range (lo := 1) (n := ((pl.length : Int) - 1).toNat) (fun i σ H' => ∃ (v8 v9 v11 : Option V), σ = [some (.ref a), some (.int m), some (.int way), some (.ref rw), some (.ref kp), some (.ref q), some (.ref f), some (.int (Mir.inv key xs : Nat)), v8, v9, some (.ref p), v11, none] ∧ H' = Z3) ⟨_, _, _, rfl, rfl⟩ ?_ ?_
    · rintro i σ H' hi ⟨v8, v9, v11, rfl, rfl⟩
      rw [show ((1 : Int) + (i : Nat)) = ((i + 1 : Nat) : Int) by omega]
      obtain ⟨t, et⟩ : ∃ t, pl[i]? = some t := ⟨_, List.getElem?_eq_getElem (by omega)⟩
      obtain ⟨u, eu⟩ : ∃ u, pl[i + 1]? = some u := ⟨_, List.getElem?_eq_getElem (by omega)⟩
      have ent : (niV pl)[i]? = some (.int (t : Nat)) := by rw [List.getElem?_map, et]; rfl
      have enu : (niV pl)[i + 1]? = some (.int (u : Nat)) := by rw [List.getElem?_map, eu]; rfl
      obtain ⟨x, ex⟩ : ∃ x, xs[t]? = some x := ⟨_, List.getElem?_eq_getElem (hpm t (List.mem_of_getElem? et))⟩
      obtain ⟨y, ey⟩ : ∃ y, xs[u]? = some y := ⟨_, List.getElem?_eq_getElem (hpm u (List.mem_of_getElem? eu))⟩
      have li := (List.getElem?_eq_some_iff.mp et)
      have lu := (List.getElem?_eq_some_iff.mp eu)
      have tu : t < u := by
        have h := List.pairwise_iff_getElem.mp hpp i (i + 1) li.1 lu.1 (by omega)
        rw [li.2, lu.2] at h
        exact h
      have kxy : key x < key y := by
        have h := List.pairwise_iff_getElem.mp hpk i (i + 1) li.1 lu.1 (by omega)
        rw [li.2, lu.2] at h
        exact h x y ex ey
      have hS3 : SqL K _ rw xs := SqL.of (hf1.ls (rw, xs) (by simp)).1
      have hx := hf1.el x (List.mem_of_getElem? ex)
      have hy := hf1.el y (List.mem_of_getElem? ey)
      refine ⟨_, rfl, _, rfl, _, _, (i : Int), rfl, rfl, (by show (i : Int) = ((i + 1 : Nat) : Int) - 1; omega), p, niV pl, _, .int (t : Nat), rfl, rfl, SqL.of hp3, atI_nat ent, ?_⟩
      refine ⟨_, rfl, _, rfl, _, rfl, p, niV pl, _, .int (u : Nat), rfl, rfl, SqL.of hp3, atI_nat enu, _, _, rfl, rfl, _, rfl, ?_⟩
      refine iteD (fun h => absurd (show (u : Int) ≤ (t : Int) from h) (by omega)) (fun _ => ?_)
      refine ⟨_, rfl, _, rfl, _, rfl, rw, xs, _, x, rfl, rfl, hS3, atI_nat ex, _, rfl, _, rfl, _, rfl, p, niV pl, _, .int (u : Nat), rfl, rfl, SqL.of hp3, atI_nat enu, rw, xs, _, y, rfl, rfl, hS3, atI_nat ey, way, x, y, cc x, cc y, rfl, hx.1, hy.1, hx.2.1, hy.2.1, _, _, rfl, rfl, _, rfl, ?_⟩
      have ea : Mir.ansI way (cc x) (cc y) < 0 := (kA.neg [] x y).mpr kxy
      refine iteD (fun h => absurd (show (0 : Int) ≤ Mir.ansI way (cc x) (cc y) from h) (by omega)) (fun _ => ?_)
      exact ⟨_, _, _, rfl, rfl⟩
    rintro σ H' ⟨v8, v9, v11, rfl, rfl⟩
    -- all in range
    refine ⟨_, rfl, p, rfl, ⟨_, SqL.of hp3⟩, fun D hD => ?_⟩
    refine lc_list (K := K) (a := p) (xs := niV pl) (fun i H3 => Same H' H3 ∧ H3 D = some (.lst ((List.replicate i true).map V.bl))) ⟨Same.new hD, upd_same⟩ (fun i H3 _ h => SqL.of (h.1 _ _ hp3)) ?_ ?_
    · rintro i z H3 hi ⟨s3, h3⟩
      rw [List.getElem?_map] at hi
      obtain ⟨t, et, rfl⟩ := Option.map_eq_some_iff.mp hi
      have ht := hpm t (List.mem_of_getElem? et)
      have hil := (List.getElem?_eq_some_iff.mp et).1
      refine ⟨rfl, ?_⟩
      refine ⟨_, rfl, _, _, rfl, rfl, _, rfl, ?_⟩
      refine iteD (fun _ => ?_) (fun h => absurd (show (0 : Int) ≤ (t : Int) by omega) h)
      refine ⟨_, rfl, rw, xs, rfl, .inl (SqL.of (s3 _ _ (hf1.ls (rw, xs) (by simp)).1)), _, _, rfl, rfl, ?_⟩
      dsimp only
      rw [show decide ((t : Int) < (xs.length : Int)) = true from decide_eq_true (by omega)]
      refine ⟨_, h3, small1000 (by rw [List.length_map, List.length_replicate]; omega), fun b o e => ?_, ?_⟩
      · rw [upd_ne (ne_of_none e hD)]
        exact s3 _ _ e
      · rw [upd_same, List.replicate_succ', List.map_append]
        rfl
    · rintro H3 ⟨s3, h3⟩
      refine ⟨D, _, rfl, SqL.of h3, ?_⟩
      have e : (List.replicate (niV pl).length true).all id = true := by simp
      rw [e]
      exact hQ _
end
end Ord

namespace Ord
open PySem PySem.Spec PyProof.Rows L2 LamX
theorem toFun {K : PySem.W.Frag} {x qual : Str} {st : Stmt} {f : Addr} {fd : FuncData} (F : FunD K x qual (defArgs st) (defBody st) (defScope st) [] [] f fd) : Fun K x qual st f fd := by
  obtain ⟨oc, od, dV, kV, doc, pm, an, cdv, ct, osl, e, lk, hcd, hD, hK⟩ := F.ex
  rcases hD with ⟨_, rfl⟩ | ⟨z, _⟩
  · exact ⟨⟨oc, od, kV, doc, pm, an, cdv, ct, osl, e, lk, hcd⟩, F.kp⟩
  · exact absurd rfl z
theorem df_of {K : PySem.W.Frag} {mg : Str → Option Value} {x : Str} {st : Stmt} {ps : List Str} (h : ∃ fd, FunD K x x (defArgs st) (defBody st) (defScope st) [] [] (He.fAd K (x, none)) fd) (g : mg x = some (.ref (He.ga K x)))
    (hb : ∀ (kV doc pm : Value) (an : Option Addr) (cdv ct : Value) (us : List Value), us.length = ps.length → bindArgs (PySem.W.fnOf x x (defArgs st) (defBody st) (defScope st) .none kV doc pm an cdv ct) ⟨us, []⟩ = pure (ps.zip us)) :
    ∃ d : Df K mg x st ps, d.f = He.fAd K (x, none) := by
  obtain ⟨fd, F⟩ := h
  exact ⟨⟨_, fd, toFun F, g, (toFun F).binds hb⟩, rfl⟩
theorem df_code {K : PySem.W.Frag} {mg : Str → Option Value} {x : Str} {st : Stmt} {ps : List Str} (d : Df K mg x st ps) (e : d.f = He.fAd K (x, none)) : d.fd.code = .ref (He.cT K (x, none)).1 := by
  obtain ⟨oc, od, kV, doc, pm, an, cdv, ct, osl, e1, lk, hcd⟩ := d.F.ex
  obtain ⟨c, ec⟩ := He.codeIn_ref hcd
  have e2 : d.fd.code = .ref c := by rw [e1]; exact ec
  rw [e] at lk
  have e3 : He.codeOf K (x, none) = c := He.codeOf_eq lk e2
  rw [e2]
  show _ = Value.ref (He.codeOf K (x, none))
  rw [e3]
theorem df_bind {K : PySem.W.Frag} {mg : Str → Option Value} {x : Str} {st : Stmt} (d : Df K mg x st [y])
    (hb : ∀ (kV doc pm : Value) (an : Option Addr) (cdv ct : Value) (us : List Value), us.length = 1 → bindArgs (PySem.W.fnOf x x (defArgs st) (defBody st) (defScope st) .none kV doc pm an cdv ct) ⟨us, []⟩ = pure ([y].zip us)) : ∀ (s : Shared) (u : Value), BindsTo s d.fd ⟨[u], []⟩ [(y, u)] := by
  intro s u
  obtain ⟨oc, od, kV, doc, pm, an, cdv, ct, osl, e1, lk, hcd⟩ := d.F.ex
  rw [e1]
  exact .of_eq (hb kV doc pm an cdv ct [u] rfl)
end Ord

namespace Ord
open PySem PySem.Spec PyProof.Rows L2 LamX
def dd_turned_pairs : He.DefD := ⟨("turned_pairs", none), "turned_pairs", "turned_pairs", defArgs st_turned_pairs, defBody st_turned_pairs, defScope st_turned_pairs, [], []⟩
def dd_counted : He.DefD := ⟨("counted", none), "counted", "counted", defArgs st_counted, defBody st_counted, defScope st_counted, [], []⟩
def dd_rising : He.DefD := ⟨("rising", none), "rising", "rising", defArgs st_rising, defBody st_rising, defScope st_rising, [], []⟩
def dd__law_cell : He.DefD := ⟨("_law_cell", none), "_law_cell", "_law_cell", defArgs st__law_cell, defBody st__law_cell, defScope st__law_cell, [], []⟩
def dd__law_drawn : He.DefD := ⟨("_law_drawn", none), "_law_drawn", "_law_drawn", defArgs st__law_drawn, defBody st__law_drawn, defScope st__law_drawn, [], []⟩
def dd__law_answer : He.DefD := ⟨("_law_answer", none), "_law_answer", "_law_answer", defArgs st__law_answer, defBody st__law_answer, defScope st__law_answer, [], []⟩
def dd__law_ask : He.DefD := ⟨("_law_ask", none), "_law_ask", "_law_ask", defArgs st__law_ask, defBody st__law_ask, defScope st__law_ask, [], []⟩
def dd__law_log : He.DefD := ⟨("_law_log", none), "_law_log", "_law_log", defArgs st__law_log, defBody st__law_log, defScope st__law_log, [], []⟩
def dd__law_row : He.DefD := ⟨("_law_row", none), "_law_row", "_law_row", defArgs st__law_row, defBody st__law_row, defScope st__law_row, [], []⟩
def dd__law_size : He.DefD := ⟨("_law_size", none), "_law_size", "_law_size", defArgs st__law_size, defBody st__law_size, defScope st__law_size, [], []⟩
def dd__law_sorted : He.DefD := ⟨("_law_sorted", none), "_law_sorted", "_law_sorted", defArgs st__law_sorted, defBody st__law_sorted, defScope st__law_sorted, [], []⟩
def dd__law_longest : He.DefD := ⟨("_law_longest", none), "_law_longest", "_law_longest", defArgs st__law_longest, defBody st__law_longest, defScope st__law_longest, [], []⟩
def dd_law : He.DefD := ⟨("law", none), "law", "law", defArgs st_law, defBody st_law, defScope st_law, [], []⟩
def fnL : List He.DefD := [dd_turned_pairs, dd_counted, dd_rising, dd__law_cell, dd__law_drawn, dd__law_answer, dd__law_ask, dd__law_log, dd__law_row, dd__law_size, dd__law_sorted, dd__law_longest, dd_law]
def faL : List He.Fa := [.glo "turned_pairs", .glo "counted", .glo "rising", .glo "_law_cell", .glo "_law_drawn", .glo "_law_answer", .glo "_law_ask", .glo "_law_log", .glo "_law_row", .glo "_law_size", .glo "_law_sorted", .glo "_law_longest", .glo "law", .free "len", .free "list", .free "int", .free "abs", .free "min", .free "max", .free "range", .free "all", .free "isinstance", .free "reversed"]
def tfL : List He.Defn := [("law", none)]
abbrev RR : PySem.W.OpenRow := PySem.W.OpenLaw.row PySem.Challenge.rw_yourorder_k17_whole_turned_pairs_and_ris
abbrev hkL : PySem.W.Hook := He.hookX 4 faL fnL [] tfL (fun _ => true)
def obL (s : PySem.W.SharedT) : He.AlX := He.obsX 4 faL fnL [] tfL (fun _ => true) (HandSHeadRun.getT s)
theorem obL_eq (s : PySem.W.SharedT) : obL s = hkL.obs s.abs := He.obsX_eq (HandSHeadRun.getT_eq s)
theorem runL (w : World) : HandSHeadRun.RunEq RR (PySem.W.view RR.prog [14]) hkL obL 4000 ["turned_pairs", "counted", "rising", "_law_cell", "_law_drawn", "_law_answer", "_law_ask", "_law_log", "_law_row", "_law_size", "_law_sorted", "_law_longest"] w := by
  intro os
  kernel_rfl
theorem factsL {P : Program} {w : World} {K : PySem.W.Frag} {h : Heap} {mg : Str → Option Value} {f : Addr} (X : K.In h) (G : h.Ns mainGlobals mg) (hfa : mg ("law" : Str) = some (.ref f)) (cc : He.SaysX faL fnL [] tfL (fun _ => true) w h K) :
    ∃ fd : FuncData, (∀ (s : Shared) (u : Value), BindsTo s fd ⟨[u], []⟩ [("_law_script", u)]) ∧ ∀ base : Heap, K.In base → base.Ns mainGlobals mg → (∀ p ∈ tfL.map (He.cT K), TabB base mg p.1 p.2) → FnOk P w K mg base CX0 20 f fd ["_law_script"] (spLaw K (He.cT K ("law", none)).2) := by
  have c := cc.t.d
  obtain ⟨d_turned_pairs, e_turned_pairs⟩ := df_of (st := st_turned_pairs) (ps := ["row", "order"]) (c.def_ 0 (d := dd_turned_pairs) rfl) (He.glo_ok X G (c.fact 0 (f := .glo "turned_pairs") rfl)) (fun _ _ _ _ _ _ us hl => match us, hl with | [_, _], _ => rfl)
  obtain ⟨d_counted, e_counted⟩ := df_of (st := st_counted) (ps := ["row", "order"]) (c.def_ 1 (d := dd_counted) rfl) (He.glo_ok X G (c.fact 1 (f := .glo "counted") rfl)) (fun _ _ _ _ _ _ us hl => match us, hl with | [_, _], _ => rfl)
  obtain ⟨d_rising, e_rising⟩ := df_of (st := st_rising) (ps := ["row", "order"]) (c.def_ 2 (d := dd_rising) rfl) (He.glo_ok X G (c.fact 2 (f := .glo "rising") rfl)) (fun _ _ _ _ _ _ us hl => match us, hl with | [_, _], _ => rfl)
  obtain ⟨d__law_cell, e__law_cell⟩ := df_of (st := st__law_cell) (ps := ["_law_script", "_law_k"]) (c.def_ 3 (d := dd__law_cell) rfl) (He.glo_ok X G (c.fact 3 (f := .glo "_law_cell") rfl)) (fun _ _ _ _ _ _ us hl => match us, hl with | [_, _], _ => rfl)
  obtain ⟨d__law_drawn, e__law_drawn⟩ := df_of (st := st__law_drawn) (ps := ["_law_cell_here", "_law_k"]) (c.def_ 4 (d := dd__law_drawn) rfl) (He.glo_ok X G (c.fact 4 (f := .glo "_law_drawn") rfl)) (fun _ _ _ _ _ _ us hl => match us, hl with | [_, _], _ => rfl)
  obtain ⟨d__law_answer, e__law_answer⟩ := df_of (st := st__law_answer) (ps := ["_law_way", "_law_one", "_law_other"]) (c.def_ 5 (d := dd__law_answer) rfl) (He.glo_ok X G (c.fact 5 (f := .glo "_law_answer") rfl)) (fun _ _ _ _ _ _ us hl => match us, hl with | [_, _, _], _ => rfl)
  obtain ⟨d__law_ask, e__law_ask⟩ := df_of (st := st__law_ask) (ps := ["_law_asked", "_law_way", "_law_one", "_law_other"]) (c.def_ 6 (d := dd__law_ask) rfl) (He.glo_ok X G (c.fact 6 (f := .glo "_law_ask") rfl)) (fun _ _ _ _ _ _ us hl => match us, hl with | [_, _, _, _], _ => rfl)
  obtain ⟨d__law_log, e__law_log⟩ := df_of (st := st__law_log) (ps := ["_law_many"]) (c.def_ 7 (d := dd__law_log) rfl) (He.glo_ok X G (c.fact 7 (f := .glo "_law_log") rfl)) (fun _ _ _ _ _ _ us hl => match us, hl with | [_], _ => rfl)
  obtain ⟨d__law_row, e__law_row⟩ := df_of (st := st__law_row) (ps := ["_law_script", "_law_start", "_law_many", "_law_spread"]) (c.def_ 8 (d := dd__law_row) rfl) (He.glo_ok X G (c.fact 8 (f := .glo "_law_row") rfl)) (fun _ _ _ _ _ _ us hl => match us, hl with | [_, _, _, _], _ => rfl)
  obtain ⟨d__law_size, e__law_size⟩ := df_of (st := st__law_size) (ps := ["_law_script", "_law_most"]) (c.def_ 9 (d := dd__law_size) rfl) (He.glo_ok X G (c.fact 9 (f := .glo "_law_size") rfl)) (fun _ _ _ _ _ _ us hl => match us, hl with | [_, _], _ => rfl)
  obtain ⟨d__law_sorted, e__law_sorted⟩ := df_of (st := st__law_sorted) (ps := ["_law_row_here", "_law_way"]) (c.def_ 10 (d := dd__law_sorted) rfl) (He.glo_ok X G (c.fact 10 (f := .glo "_law_sorted") rfl)) (fun _ _ _ _ _ _ us hl => match us, hl with | [_, _], _ => rfl)
  obtain ⟨d__law_longest, e__law_longest⟩ := df_of (st := st__law_longest) (ps := ["_law_row_here", "_law_way"]) (c.def_ 11 (d := dd__law_longest) rfl) (He.glo_ok X G (c.fact 11 (f := .glo "_law_longest") rfl)) (fun _ _ _ _ _ _ us hl => match us, hl with | [_, _], _ => rfl)
  obtain ⟨d_law, e_law⟩ := df_of (st := st_law) (ps := ["_law_script"]) (c.def_ 12 (d := dd_law) rfl) (He.glo_ok X G (c.fact 12 (f := .glo "law") rfl)) (fun _ _ _ _ _ _ us hl => match us, hl with | [_], _ => rfl)
  have e := hfa.symm.trans d_law.g
  cases e
  refine ⟨d_law.fd, df_bind d_law (fun _ _ _ _ _ _ us hl => match us, hl with | [_], _ => rfl), fun base hK hG hT => ?_⟩
  exact ok_law d_law d_turned_pairs d_counted d_rising d__law_cell d__law_drawn d__law_answer d__law_ask d__law_log d__law_row d__law_size d__law_sorted d__law_longest  (He.free_ok X G (c.fact 13 (f := .free "len") rfl)) (He.free_ok X G (c.fact 14 (f := .free "list") rfl)) (He.free_ok X G (c.fact 15 (f := .free "int") rfl)) (He.free_ok X G (c.fact 16 (f := .free "abs") rfl)) (He.free_ok X G (c.fact 17 (f := .free "min") rfl)) (He.free_ok X G (c.fact 18 (f := .free "max") rfl)) (He.free_ok X G (c.fact 19 (f := .free "range") rfl)) (He.free_ok X G (c.fact 20 (f := .free "all") rfl)) (He.free_ok X G (c.fact 21 (f := .free "isinstance") rfl)) (He.free_ok X G (c.fact 22 (f := .free "reversed") rfl)) (hT (He.cT K ("law", none)) (List.mem_map.mpr ⟨("law", none), by simp [tfL], rfl⟩)) (df_code d_law e_law)
end Ord
open PySem PySem.W PySem.Calls PyProof.Rows
theorem PySem.Challenge.cw_yourorder_k17_whole_turned_pairs_and_ris_holds : PySem.Challenge.rw_yourorder_k17_whole_turned_pairs_and_ris.Holds := by
  w_on; o_law
  refine HandSHeadRun.head_any (r := OpenLaw.row PySem.Challenge.rw_yourorder_k17_whole_turned_pairs_and_ris) (q := view (OpenLaw.row PySem.Challenge.rw_yourorder_k17_whole_turned_pairs_and_ris).prog [14]) (H := Ord.hkL) (ob := Ord.obL) (M := 4000) (loose := ["turned_pairs", "counted", "rising", "_law_cell", "_law_drawn", "_law_answer", "_law_ask", "_law_log", "_law_row", "_law_size", "_law_sorted", "_law_longest"]) (d := HandSHeadRun.topDef (OpenLaw.row PySem.Challenge.rw_yourorder_k17_whole_turned_pairs_and_ris).prog 14) (kwd := []) Ord.obL_eq
    (by kernel_rfl) (fun s => by kernel_rfl) Ord.runL (by kernel_rfl) (by kernel_rfl) (by kernel_rfl) (by rfl) (by first | assumption | decide +kernel) (by decide +kernel) ⟨rfl, rfl, rfl, rfl, rfl, by decide +kernel⟩ ?hw ?hc
  case hw => w_witness2
  case hc =>
    refine LamX.walk_ofTsE (l := PySem.Challenge.rw_yourorder_k17_whole_turned_pairs_and_ris) (n := 63) (k := 20) (x := "_law_script") (CX := fun _ => L2.CX0) rfl (by decide) (by kernel_rfl) ⟨rfl, by decide, by decide⟩ ?F (fun _ _ _ _ _ z => z)
    intro w mg fa h Y G hmg0
    obtain ⟨K, KX, c⟩ := Y
    have hmg : mg ("law" : PySem.Str) = some (.ref fa) := by
      have e : (HandSHeadRun.topDef (OpenLaw.row PySem.Challenge.rw_yourorder_k17_whole_turned_pairs_and_ris).prog 14).name = ("law" : PySem.Str) := by kernel_rfl
      rw [← e]
      exact hmg0
    obtain ⟨fd, hb, hF⟩ := Ord.factsL (P := (PySem.Challenge.rw_yourorder_k17_whole_turned_pairs_and_ris).prog) (w := w) KX G hmg c
    refine ⟨K, KX, fd, Ord.tfL.map (He.cT K), _, fun p hp => ?_, fun p hp => ?_, fun p hp => ?_, hb, fun H a ns hl hbits hT hS => ?_, hF⟩
    · obtain ⟨z, hz, rfl⟩ := List.mem_map.mp hp
      exact c.empty z hz
    · obtain ⟨z, hz, rfl⟩ := List.mem_map.mp hp
      exact c.out z hz
    · obtain ⟨z, hz, rfl⟩ := List.mem_map.mp hp
      exact PySem.W.codeHd_of_K KX (c.hd z hz)
    · exact ⟨a, ns, rfl, hS, hl, hT (He.cT K ("law", none)) (List.mem_map.mpr ⟨("law", none), by simp [Ord.tfL], rfl⟩), fun _ => rfl⟩
#print axioms PySem.Challenge.cw_yourorder_k17_whole_turned_pairs_and_ris_holds


