import PyProof.Rows.All
import Wide.All
import OpenK.AllK
import Wide.FinOn
import HandS.ForMost
import HandS.ForExc
import HandS.HeadHook4
import HandS.HeadWalk
import HandS.HotCalls
import HandS.ExcInit
import HandS.ExcField
import HandS.ExcIs
import HandS.IsInst
import HandS.Lambda
import HandS.Head2
import HandS.Evl
import HandS.Wide
import HandS.RaiseMore
import HandS.TupLe
import KE.DataCmp
import KE.KExcIs
import HandS.EndTab
import PySem.Challenge.RW_allwritings_k91_whole_morse_and_loreti
set_option Elab.async false
set_option linter.all false
set_option maxRecDepth 100000
set_option maxHeartbeats 4000000
/-! helpers over the hand layer, of no program -/
namespace G7
open PySem PySem.Spec PyProof.Rows L2 Evl
/-- the module's def x keeps the promise sp -/
structure Has (P : Program) (w : World) (K : PySem.W.Frag) (mg : Str → Option Value) (base : Heap) (C : CXT) (k : Nat) (x : Str) (ps : List Str) (sp : Sp) : Prop where
  ex : ∃ fd, FnOk P w K mg base C k (He.ga K x) fd ps sp ∧ Binds K fd ps []
  kp : PySem.W.keepIn K (.ref (He.ga K x)) = true
  gl : mg x = some (.ref (He.ga K x))
theorem Has.mono {P : Program} {w : World} {K : PySem.W.Frag} {mg : Str → Option Value} {base : Heap} {C : CXT} {j k : Nat} {x : Str} {ps : List Str} {sp : Sp} (h : Has P w K mg base C j x ps sp) (l : j ≤ k) : Has P w K mg base C k x ps sp := by
  obtain ⟨⟨fd, a, b⟩, c, d⟩ := h
  exact ⟨⟨fd, a.mono l, b⟩, c, d⟩
theorem Has.imp {P : Program} {w : World} {K : PySem.W.Frag} {mg : Str → Option Value} {base : Heap} {C : CXT} {k : Nat} {x : Str} {ps : List Str} {sp sp' : Sp} (h : Has P w K mg base C k x ps sp) (l : ∀ vs H Q E, sp' vs H Q E → sp vs H Q E) : Has P w K mg base C k x ps sp' := by
  obtain ⟨⟨fd, a, b⟩, c, d⟩ := h
  exact ⟨⟨fd, a.imp l, b⟩, c, d⟩
section
variable {X : Cx} {C : CXT} {k : Nat} {x : Str} {ps : List Str} {sp : Sp} {E : XK} {p pos : Pos} {e : Expr} {es : List Expr} {t : TA}
/-- x(e, ..) -/
theorem pe_hc (h : Has X.prog X.w X.K X.mg X.base C k x ps sp) (hr : Room k X.A) (hg : Gl X x) (hx : Passes C X E) (ha : PA X (e :: es) t)
    (hd : (x == ("__debug__" : Str)) = false := by decide) (h1 : starEach (e :: es) X.env = (false, eval e X.env) :: starEach es X.env := by rfl) (h2 : (backTo pos (starEach es X.env)).any (·.1) = false := by rfl) :
    PE X (.Call (.Name x p) (e :: es) [] pos) (tCall sp [] E t) := by
  obtain ⟨⟨fd, a, b⟩, c, d⟩ := h
  exact pe_call a hr hg d c b .nil hx ha hd h1 h2
/-- the same in a body that lets exceptions out, or in a try -/
theorem pe_hcS {E : L2.St → XK} (h : Has X.prog X.w X.K X.mg X.base C k x ps sp) (hr : Room k X.A) (hg : Gl X x) (hx : ∀ σ, PassesAt C X σ (E σ)) (ha : PA X (e :: es) t)
    (hd : (x == ("__debug__" : Str)) = false := by decide) (h1 : starEach (e :: es) X.env = (false, eval e X.env) :: starEach es X.env := by rfl) (h2 : (backTo pos (starEach es X.env)).any (·.1) = false := by rfl) :
    PE X (.Call (.Name x p) (e :: es) [] pos) (tCallS sp E t) := by
  obtain ⟨⟨fd, a, b⟩, c, d⟩ := h
  exact pe_callS a hr hg d c b hx ha hd h1 h2
end
section
variable {P : Program} {w : World} {K : PySem.W.Frag} {mg : Str → Option Value} {base : Heap} {k : Nat} {x : Str} {N ps : List Str} {sp : Sp} {params : Arguments} {body : List Stmt} {scope : Scope}
/-- a def that may let exceptions out -/
theorem Has.ofX {C : CXT} (F : ∃ fd, FunD K x x params body scope [] [] (He.ga K x) fd) (g : mg x = some (.ref (He.ga K x))) (S : FnScope N ps scope)
    (b : ∀ (kV doc pm : Value) (an : Option Addr) (cdv ct : Value) (us : List Value), us.length = ps.length → bindArgs (PySem.W.fnOf x x params body scope .none kV doc pm an cdv ct) ⟨us, []⟩ = pure (ps.zip us))
    (len : ∀ vs H Q E, sp vs H Q E → vs.length = ps.length)
    (hb : ∀ (cdv : Value) (A : Around) (outer : List Env) (s : Shared) (H : Hp) (vs : List V) (Q : VK) (E : XK), Room k (A.deeper (envOfC x scope s.heap.objs.size (He.ga K x) cdv)) → sp vs H Q E →
      ∃ t, PSs (cxOf C P w K mg base N x scope (He.ga K x) cdv A outer s H E) body t ∧ t { nx := fun _ H' => Q .non H', rt := Q } (start N vs) H) : Has P w K mg base C (k + 1) x ps sp := by
  obtain ⟨fd, F⟩ := F
  exact ⟨⟨fd, F.ok S len hb, F.bindsN b⟩, F.kp, g⟩
/-- a def that lets none out -/
theorem Has.of (F : ∃ fd, FunD K x x params body scope [] [] (He.ga K x) fd) (g : mg x = some (.ref (He.ga K x))) (S : FnScope N ps scope)
    (b : ∀ (kV doc pm : Value) (an : Option Addr) (cdv ct : Value) (us : List Value), us.length = ps.length → bindArgs (PySem.W.fnOf x x params body scope .none kV doc pm an cdv ct) ⟨us, []⟩ = pure (ps.zip us))
    (len : ∀ vs H Q E, sp vs H Q E → vs.length = ps.length)
    (hb : ∀ (cdv : Value) (A : Around) (outer : List Env) (s : Shared) (H : Hp) (vs : List V) (Q : VK) (E : XK), Room k (A.deeper (envOfC x scope s.heap.objs.size (He.ga K x) cdv)) → sp vs H Q E →
      ∃ t, PSs (cxOf CX0 P w K mg base N x scope (He.ga K x) cdv A outer s H E).nox body t ∧ t { nx := fun _ H' => Q .non H', rt := Q } (start N vs) H) : Has P w K mg base CX0 (k + 1) x ps sp :=
  Has.ofX F g S b len fun cdv A outer s H vs Q E hr h => by
    obtain ⟨t, a, q⟩ := hb cdv A outer s H vs Q E hr h
    exact ⟨t, a.nox, q⟩
end
/-! ### isinstance against built-in classes -/
theorem TyX.ex {K : PySem.W.Frag} {H H' : Hp} {x : V} {t : Value} (e : Ex H H') (h : TyX K H x t) : TyX K H' x t := by
  cases h with
  | base b =>
    cases b with
    | non => exact .base .non
    | bl y => exact .base (.bl y)
    | int i => exact .base (.int i)
    | str y => exact .base (.str y)
    | flt y => exact .base (.flt y)
    | lst q => exact .base (.lst (e _ _ q))
    | frz q => exact .base (.frz (e _ _ q))
    | tup q => exact .base (.tup (e _ _ q))
    | dK q => exact .base (.dK (e _ _ q))
    | dT q => exact .base (.dT (e _ _ q))
    | ins q cl ha hn htk hm => exact .base (.ins (e _ _ q) cl ha hn htk hm)
  | byt b => exact .byt b
  | set q => exact .set (e _ _ q)
  | kList q c => exact .kList q c
  | kTuple q c => exact .kTuple q c
  | kDict q c => exact .kDict q c
  | fTuple q => exact .fTuple (e _ _ q)
  | fDict q => exact .fDict (e _ _ q)
section
variable {K : PySem.W.Frag} {H : Hp} {σ : L2.St} {te : TE} {x : V} {a n : String} {b : Bool}
/-- isinstance(e, n) -/
theorem ev_isi (h : Ev te σ H x) (ty : TyX K H x (.type a)) (hk : kitB a n = some b) : Ev (tCB (rIsi K) (tCons te (tCons (tC (.ty n)) tNil))) σ H (.bl b) := fun H1 e Q q =>
  h H1 e _ fun H2 e2 => ⟨x, .ty n, .type a, .type n, b, rfl, ClsV.ty n, TyX.ex (e.trans e2) ty, kit_ty hk, q H2 e2⟩
end
section
variable {X : Cx} {K : PySem.W.Frag} {H : Hp} {σ : L2.St} {ta tb tc te : TE}
/-- a built-in class as a value -/
theorem pe_ty {x : Str} {n : String} {pos : Pos} (hg : Gl X x) (hm : X.mg x = none) (hv : bootBuiltins x = some (.type n)) (hn : x ≠ "__name__" := by decide) (hd : (x == ("__debug__" : Str)) = false := by decide) : PE X (.Name x pos) (tC (.ty n)) :=
  pe_bltn (v := .ty n) hg hm hv rfl hn hd
/-- a global int -/
theorem pe_gi {x : Str} {i : Int} {pos : Pos} (hg : Gl X x) (hm : ∃ t, X.mg x = some (.int i t)) (hd : (x == ("__debug__" : Str)) = false := by decide) : PE X (.Name x pos) (tC (.int i)) := by
  obtain ⟨t, hm⟩ := hm
  exact pe_glob (v := .int i) hg hm ⟨t, rfl⟩ hd
/-- a global text -/
theorem pe_gs {x z : Str} {pos : Pos} (hg : Gl X x) (hm : ∃ t, X.mg x = some (.str z t)) (hd : (x == ("__debug__" : Str)) = false := by decide) : PE X (.Name x pos) (tC (.str z)) := by
  obtain ⟨t, hm⟩ := hm
  exact pe_glob (v := .str z) hg hm ⟨t, rfl⟩ hd
abbrev rLe : R2 := rI0 fun i j => .bl (decide (i ≤ j))
abbrev rLt : R2 := rI0 fun i j => .bl (decide (i < j))
/-- a <= b <= c of ints -/
theorem ev_chain {f g : Int → Int → Bool} {i j l : Int} (ha : Ev ta σ H (.int i)) (hb : Ev tb σ H (.int j)) (hc : Ev tc σ H (.int l)) :
    Ev (tChain (rI0 fun i j => .bl (f i j)) (rI0 fun i j => .bl (g i j)) ta tb tc) σ H (.bl (f i j && g j l)) := fun H1 e Q q =>
  ha H1 e _ fun H2 e2 => hb H2 (e.trans e2) _ fun H3 e3 => ⟨i, j, rfl, rfl, f i j, rfl, by
    cases hf : f i j with
    | true =>
      rw [hf] at q
      show tc σ H3 fun w' H4 => _
      exact hc H3 ((e.trans e2).trans e3) _ fun H4 e4 => ⟨j, l, rfl, rfl, q H4 ((e2.trans e3).trans e4)⟩
    | false =>
      rw [hf] at q
      show Q (.bl false) H3
      exact q H3 (e2.trans e3)⟩
/-- what a def's promise gives of values alone -/
theorem ev_hc {sp : Sp} {E : XK} {t : TA} {vs : List V} {z : V} (h : EvA t σ H vs) (hs : ∀ H1, Ex H H1 → ∀ Q : VK, (∀ H2, Ex H1 H2 → Q z H2) → sp vs H1 Q E) : Ev (tCall sp [] E t) σ H z := fun H1 e Q q =>
  h H1 e _ fun H2 e2 => by
    show sp (vs ++ []) H2 Q E
    rw [List.append_nil]
    exact hs H2 (e.trans e2) Q fun H3 e3 => q H3 (e2.trans e3)
/-- .. a new list, a new tuple -/
theorem el_hc {sp : Sp} {E : XK} {t : TA} {vs xs : List V} (h : EvA t σ H vs) (hs : ∀ H1, Ex H H1 → ∀ Q : VK, (∀ p H2, H1 p = none → Ex H1 H2 → H2 p = some (.lst xs) → Q (.ref p) H2) → sp vs H1 Q E) : EvL (tCall sp [] E t) σ H xs := fun H1 e Q q =>
  h H1 e _ fun H2 e2 => by
    show sp (vs ++ []) H2 Q E
    rw [List.append_nil]
    exact hs H2 (e.trans e2) Q fun p H3 hp e3 h3 => q p H3 (fresh_back e2 hp) (e2.trans e3) h3
theorem eu_hc {sp : Sp} {E : XK} {t : TA} {vs xs : List V} (h : EvA t σ H vs) (hs : ∀ H1, Ex H H1 → ∀ Q : VK, (∀ p H2, H1 p = none → Ex H1 H2 → H2 p = some (.tup xs) → Q (.ref p) H2) → sp vs H1 Q E) : EvU (tCall sp [] E t) σ H xs := fun H1 e Q q =>
  h H1 e _ fun H2 e2 => by
    show sp (vs ++ []) H2 Q E
    rw [List.append_nil]
    exact hs H2 (e.trans e2) Q fun p H3 hp e3 h3 => q p H3 (fresh_back e2 hp) (e2.trans e3) h3
/-- int(e), e an int -/
theorem ev_int1 {i : Int} (h : Ev te σ H (.int i)) : Ev (tCB (fun xs H Q => (∃ i, xs = [.int i] ∧ Q (.int i) H) ∨ ∃ k, xs = [.bl k] ∧ Q (.int (if k then 1 else 0)) H) (tCons te tNil)) σ H (.int i) := fun H1 e Q q =>
  h H1 e _ fun H2 e2 => .inl ⟨i, rfl, q H2 e2⟩
end
/-- no exception comes out of a def that might let one out -/
theorem passX0 {X : Cx} : Passes (L2.CX X.prog X.w) X E0 := fun _ _ _ _ _ _ _ h => by
  obtain ⟨_, _, _, _, _, _, _, _, _, _, _, _, z⟩ := h
  exact z.elim
section
variable {K : PySem.W.Frag} {H : Hp} {σ : L2.St} {ta tb te : TE} {D : Ends}
/-- a, b = e1, e2 -/
theorem s_par {i j : Nat} {ta : TA} {v w : V} (h : EvA ta σ H [v, w]) (k : ∀ H1, Ex H H1 → D.nx ((σ.set i (some v)).set j (some w)) H1) : tPar i j ta D σ H := h H (Ex.refl H) _ fun H1 e => ⟨v, w, rfl, k H1 e⟩
/-- a comparison of ints as a test -/
theorem et_ii {f : Int → Int → Bool} {i j : Int} (ha : Ev ta σ H (.int i)) (hb : Ev tb σ H (.int j)) : EvT (tTest (tOp (rI0 fun i j => .bl (f i j)) ta tb)) σ H (f i j) := et_test (ev_op ha hb rv_I0)
theorem ev_ii {f : Int → Int → Int} {i j : Int} (ha : Ev ta σ H (.int i)) (hb : Ev tb σ H (.int j)) : Ev (tOp (rI0 fun i j => .int (f i j)) ta tb) σ H (.int (f i j)) := ev_op ha hb rv_I0
theorem ev_iC {C : Int → Int → Prop} {f : Int → Int → Int} {i j : Int} (ha : Ev ta σ H (.int i)) (hb : Ev tb σ H (.int j)) (hc : C i j) : Ev (tOp (rI C fun i j => .int (f i j)) ta tb) σ H (.int (f i j)) := ev_op ha hb (rv_I hc)
theorem EvA.one {x : V} (h : Ev ta σ H x) : EvA (tCons ta tNil) σ H [x] := ea_cons h ea_nil
theorem EvA.two {x y : V} (h : Ev ta σ H x) (h2 : Ev tb σ H y) : EvA (tCons ta (tCons tb tNil)) σ H [x, y] := ea_cons h (ea_cons h2 ea_nil)
end
section
variable {K : PySem.W.Frag} {H : Hp} {σ : L2.St} {ta tb te tl : TE} {t : TT} {D : Ends}
theorem et_yes : EvT tYes σ H true := fun H1 _ Q q => q H1 (Ex.refl H1)
theorem et_eqi {i j : Int} (ha : Ev ta σ H (.int i)) (hb : Ev tb σ H (.int j)) : EvT (tTest (tOp rEq ta tb)) σ H (i == j) := et_test (by
  have h := ev_op ha hb (rv_eq (H := H) (x := .int i) (y := .int j) rfl)
  rw [dec_int] at h
  exact h)
theorem et_nei {i j : Int} (ha : Ev ta σ H (.int i)) (hb : Ev tb σ H (.int j)) : EvT (tTest (tOp rNe ta tb)) σ H (!(i == j)) := et_test (by
  have h := ev_op ha hb (rv_ne (H := H) (x := .int i) (y := .int j) rfl)
  rw [dec_int] at h
  exact h)
/-- isinstance(e, (n1, n2)) -/
theorem ev_isi2 {x : V} {a n1 n2 : String} {b1 b2 : Bool} (h : Ev te σ H x) (ty : TyX K H x (.type a)) (h1 : kitB a n1 = some b1) (h2 : kitB a n2 = some b2) :
    Ev (tCB (rIsiT K) (tCons te (tCons (tTup (tCons (tC (.ty n1)) (tCons (tC (.ty n2)) tNil))) tNil))) σ H (.bl (b1 || b2)) := fun H1 e Q q =>
  h H1 e _ fun H2 e2 => ⟨by show 2 ≤ sizeLine; decide, fun p hp => ⟨x, p, [.ty n1, .ty n2], .type a, [.type n1, .type n2], b1 || b2, rfl, upd_same, .cons (ClsV.ty n1) (.cons (ClsV.ty n2) .nil), TyX.ex ((e.trans e2).trans (Ex.new hp)) ty,
    kitAny_cons (kit_ty h1) (fun e1 => by
      rw [e1]
      exact kitAny_cons (kit_ty h2) (fun e2 => by rw [e2]; exact kitAny_nil) fun e2 => e2) (fun e1 => by rw [e1]; rfl), q _ (e2.trans (Ex.new hp))⟩⟩
/-- all the items -/
theorem given_all (xs : List V) : given xs.length (fun _ => true) (fun i => xs.getD i .non) = xs := by
  have e : (List.range xs.length).filter (fun _ => true) = List.range xs.length := List.filter_eq_self.mpr fun _ _ => rfl
  unfold given
  rw [e]
  refine List.ext_getElem? fun i => ?_
  rw [List.getElem?_map]
  by_cases h : i < xs.length
  · rw [List.getElem?_range h]
    simp [h]
  · have h1 : (List.range xs.length)[i]? = none := List.getElem?_eq_none_iff.mpr (by rw [List.length_range]; omega)
    have h2 : xs[i]? = none := List.getElem?_eq_none_iff.mpr (by omega)
    rw [h1, h2]
    rfl
/-- [e for x in t], t a tuple -/
theorem el_lcT {a : Addr} {xs : List V} {j : Nat} {vs : List Nat} (f : Nat → Bool) (v : Nat → V) (h : Ev tl σ H (.ref a)) (hx : SqT K H a xs) (hz : xs.length ≤ 40000) (hw : ∀ x, wipe ((wipe σ vs).set j (some x)) vs = wipe σ vs)
    (ht : ∀ (i : Nat) (x : V) H1, Ex H H1 → xs[i]? = some x → EvT t ((wipe σ vs).set j (some x)) H1 (f i))
    (he : ∀ (i : Nat) (x : V) H1, Ex H H1 → xs[i]? = some x → f i = true → Ev te ((wipe σ vs).set j (some x)) H1 (v i)) : EvL (tLc (iTup K tl) (gName j) t te vs) σ H (given xs.length f v) := fun H0 e0 Q q => by
  refine h H0 e0 _ fun H1 e1 => ⟨a, rfl, ⟨xs, ex_t (e0.trans e1) hx⟩, fun L hL => ?_⟩
  have e01 := e0.trans e1
  refine lc_tup (xs := xs) (Cw H1 f v L) ⟨hL, Ex.new hL, upd_same⟩ (fun i H2 _ c => ex_t (e01.trans c.2.1) hx) (fun i x H2 hi c => ⟨hw x, ?_⟩) (fun H2 c => q L H2 (fresh_back e1 c.1) (e1.trans c.2.1) c.2.2)
  have hlt : i < xs.length := (List.getElem?_eq_some_iff.mp hi).1
  exact cw_turn c (by omega) (ht i x H1 e01 hi) fun hf => he i x H1 e01 hi hf
/-- tuple(a new list) -/
theorem eu_tupL {xs : List V} (h : EvL te σ H xs) : EvU (tCB (fun xs H Q => ∃ p ys, xs = [.ref p] ∧ ((SqL K H p ys ∧ ∀ l, H l = none → Q (.ref l) (upd H l (.tup ys))) ∨ (SqT K H p ys ∧ Q (.ref p) H))) (tCons te tNil)) σ H xs := fun H1 e Q q =>
  h H1 e _ fun p H2 hp e2 h2 => ⟨p, xs, rfl, .inl ⟨sq_of h2, fun l hl => q l _ (fresh_back e2 hl) (e2.trans (Ex.new hl)) upd_same⟩⟩
end
/-! ### an own class of errors -/
def oexB (K : PySem.W.Frag) (C : Addr) : Bool := (match K.lookup C with
  | some ⟨.type "type", _, .cls cd, sl⟩ => (match cd.mro, sl.toList with
    | .ref D :: bm, [_, _, _, _, some (.builtin n), _] => D == C && (n == "ValueError.__new__" && (cd.hasDict && (!cd.hasDel && PySem.HandSPX.refsVE bm)))
    | _, _ => false)
  | _ => false) && (decide (PySem.W.findIn K (.ref C) "__setattr__" = some (some (.builtin "object.__setattr__"))) && (decide (PySem.W.subIn K (.ref C) (.type "BaseException") = some true) &&
  (decide (PySem.W.typeIn K (.ref C) = some (.type "type")) && PySem.W.keepIn K (.ref C))))
theorem oexB_ok {K : PySem.W.Frag} {C : Addr} (h : oexB K C = true) : OexC K C := by
  obtain ⟨h1, h⟩ := He.ba h
  obtain ⟨h2, h⟩ := He.ba h
  obtain ⟨h3, h⟩ := He.ba h
  obtain ⟨h4, h5⟩ := He.ba h
  refine ⟨?_, of_decide_eq_true h2, of_decide_eq_true h3, of_decide_eq_true h4, h5⟩
  split at h1
  · rename_i dd cd sl ho
    split at h1
    · rename_i D bm k0 k1 k2 k3 n k5 hm hs
      simp only [Bool.and_eq_true, beq_iff_eq, Bool.not_eq_true'] at h1
      obtain ⟨rfl, rfl, hd, hdel, hr⟩ := h1
      obtain ⟨nm, bs, mro, ns, qn, hdc, sn, sub, ab, col, del⟩ := cd
      dsimp only at hm hd hdel
      subst hm hd hdel
      have esl : sl = #[k0, k1, k2, k3, some (.builtin "ValueError.__new__"), k5] := by
        obtain ⟨l⟩ := sl
        simp only at hs
        rw [hs]
      subst esl
      exact ⟨nm, qn, ns, bs, bm, sn, sub, ab, col, dd, k0, k1, k2, k3, k5, ho, hr⟩
    · cases h1
  · cases h1
def excB (K : PySem.W.Frag) (C : Addr) : Bool := xfB K C && (decide (PySem.W.findIn K (.ref C) "__class__" = some (some (.builtin "object.__class__"))) && (decide (PySem.W.specialIn K (.builtin "object.__class__") "__get__" = some (some (.builtin "getset_descriptor.__get__"))) &&
  (decide (PySem.W.takesIn K (.builtin "object.__class__") = some true) && decide (PySem.W.mroIn K C (.type "object") = some true))))
theorem excB_ok {K : PySem.W.Frag} {C : Addr} (h : excB K C = true) : XfC K C ∧ ExcC K C := by
  obtain ⟨h1, h⟩ := He.ba h
  obtain ⟨h2, h⟩ := He.ba h
  obtain ⟨h3, h⟩ := He.ba h
  obtain ⟨h4, h5⟩ := He.ba h
  have x := xfB_ok h1
  exact ⟨x, ⟨x.ga, x.gg, x.exC, x.hdC, of_decide_eq_true h2, of_decide_eq_true h3, of_decide_eq_true h4, of_decide_eq_true h5⟩⟩
/-- an own class of errors with an own __init__: all that is asked of it -/
def ownB (K : PySem.W.Frag) (x : Str) (fs : List Str) : Bool := oexB K (He.ga K x) && (excB K (He.ga K x) && (decide (PySem.W.findIn K (.ref (He.ga K x)) "__init__" = some (some (.ref (He.ma K (He.ga K x) "__init__")))) &&
  (decide (PySem.W.typeIn K (.ref (He.ma K (He.ga K x) "__init__")) = some (.type "function")) && fs.all fun f => decide (PySem.W.findIn K (.ref (He.ga K x)) f = some none))))
structure Own (K : PySem.W.Frag) (x : Str) (fs : List Str) : Prop where
  o : OexC K (He.ga K x)
  f : XfC K (He.ga K x)
  e : ExcC K (He.ga K x)
  i : PySem.W.findIn K (.ref (He.ga K x)) "__init__" = some (some (.ref (He.ma K (He.ga K x) "__init__")))
  t : PySem.W.typeIn K (.ref (He.ma K (He.ga K x) "__init__")) = some (.type "function")
  n : ∀ f ∈ fs, PySem.W.findIn K (.ref (He.ga K x)) f = some none
theorem ownB_ok {K : PySem.W.Frag} {x : Str} {fs : List Str} (h : ownB K x fs = true) : Own K x fs := by
  obtain ⟨h1, h⟩ := He.ba h
  obtain ⟨h2, h⟩ := He.ba h
  obtain ⟨h3, h⟩ := He.ba h
  obtain ⟨h4, h5⟩ := He.ba h
  obtain ⟨a, b⟩ := excB_ok h2
  exact ⟨oexB_ok h1, a, b, of_decide_eq_true h3, of_decide_eq_true h4, fun f hf => of_decide_eq_true (List.all_eq_true.mp h5 f hf)⟩
/-- isinstance of an own error against each class of a list, and against ValueError -/
def kindB (K : PySem.W.Frag) (x : Str) (cs : List (Str × Bool)) : Bool := (cs.all fun c => decide (PySem.W.kitOne K (.ref (He.ga K x)) (.ref (He.ga K c.1)) = some c.2)) && decide (PySem.W.kitOne K (.ref (He.ga K x)) (.type "ValueError") = some true)
theorem kindB_ok {K : PySem.W.Frag} {x : Str} {cs : List (Str × Bool)} (h : kindB K x cs = true) : (∀ c ∈ cs, PySem.W.kitOne K (.ref (He.ga K x)) (.ref (He.ga K c.1)) = some c.2) ∧ PySem.W.kitOne K (.ref (He.ga K x)) (.type "ValueError") = some true := by
  obtain ⟨h1, h2⟩ := He.ba h
  exact ⟨fun c hc => of_decide_eq_true (List.all_eq_true.mp h1 c hc), of_decide_eq_true h2⟩
end G7
set_option Elab.async false
set_option linter.all false
set_option maxRecDepth 100000
set_option maxHeartbeats 4000000
/-! dicts by text keys, the pen of draws -/
namespace G7
open PySem PySem.Spec PyProof.Rows L2 Evl
/-- all but what stands at p -/
def But (p : Addr) (H H' : Hp) : Prop := ∀ b o, H b = some o → b ≠ p → H' b = some o
theorem But.refl (p : Addr) (H : Hp) : But p H H := fun _ _ h _ => h
theorem But.trans {p : Addr} {H H1 H2 : Hp} (a : But p H H1) (b : But p H1 H2) : But p H H2 := fun c o h n => b c o (a c o h n) n
theorem But.of {p : Addr} {H H' : Hp} (e : Ex H H') : But p H H' := fun c o h _ => e c o h
theorem But.put {p : Addr} {H H' : Hp} {o : HO} (e : But p H H') : But p H (upd H' p o) := fun c u h n => by
  rw [upd_ne n]
  exact e c u h n
section
variable {K : PySem.W.Frag} {H : Hp} {σ : L2.St} {td ty tv : TE} {D : Ends} {a : Addr} {kvs : List (Key × V)} {key : Key} {v : V}
theorem ev_dget (ho : Ev td σ H (.ref a)) (hk : Ev ty σ H (kV key)) (ha : H a = some (.dK kvs)) (hv : valV kvs key = some v) : Ev (tDGet td ty) σ H v := fun H1 e Q q =>
  ho H1 e _ fun H2 e2 => hk H2 (e.trans e2) _ fun H3 e3 => ⟨a, v, rfl, by
    have h := DGet.k (k := key) (((e.trans e2).trans e3) _ _ ha)
    rw [hv] at h
    exact h, q H3 (e2.trans e3)⟩
theorem s_dput (hv : Ev tv σ H v) (ho : Ev td σ H (.ref a)) (hk : Ev ty σ H (kV key)) (ha : H a = some (.dK kvs)) (hl : kvs.length < 1000) (k : ∀ H1, Ex H H1 → D.nx σ (upd H1 a (.dK (putK kvs key v)))) : sDPut td ty tv D σ H :=
  hv H (Ex.refl H) _ fun H1 e1 => ho H1 e1 _ fun H2 e2 => hk H2 (e1.trans e2) _ fun H3 e3 => ⟨a, _, rfl, DPut.k (k := key) (((e1.trans e2).trans e3) _ _ ha) (small1000 (by omega)), k H3 ((e1.trans e2).trans e3)⟩
end
structure Pen where
  c : Addr
  i : Int
  dg : Int
  n : Int
  fo : Int
def Pen.kv (P : Pen) : List (Key × V) := [(Sum.inr "cells", .ref P.c), (Sum.inr "at", .int P.i), (Sum.inr "digits", .int P.dg), (Sum.inr "count", .int P.n), (Sum.inr "fold", .int P.fo)]
theorem Pen.kc (P : Pen) : valV P.kv (Sum.inr "cells") = some (.ref P.c) := rfl
theorem Pen.ki (P : Pen) : valV P.kv (Sum.inr "at") = some (.int P.i) := rfl
theorem Pen.kd (P : Pen) : valV P.kv (Sum.inr "digits") = some (.int P.dg) := rfl
theorem Pen.kn (P : Pen) : valV P.kv (Sum.inr "count") = some (.int P.n) := rfl
theorem Pen.kf (P : Pen) : valV P.kv (Sum.inr "fold") = some (.int P.fo) := rfl
theorem Pen.pi (P : Pen) (z : Int) : putK P.kv (Sum.inr "at") (.int z) = { P with i := z }.kv := rfl
theorem Pen.pd (P : Pen) (z : Int) : putK P.kv (Sum.inr "digits") (.int z) = { P with dg := z }.kv := rfl
theorem Pen.pn (P : Pen) (z : Int) : putK P.kv (Sum.inr "count") (.int z) = { P with n := z }.kv := rfl
theorem Pen.pf (P : Pen) (z : Int) : putK P.kv (Sum.inr "fold") (.int z) = { P with fo := z }.kv := rfl
theorem Pen.mk_ (P : Pen) : mergeK [] P.kv = P.kv := rfl
/-- a pen at p, its cells where they stand -/
structure PenAt (H : Hp) (p : Addr) (P : Pen) (ns : List Int) : Prop where
  at_ : H p = some (.dK P.kv)
  cs : H P.c = some (.lst (ns.map V.int))
  i0 : 0 ≤ P.i
theorem PenAt.ex {H H' : Hp} {p : Addr} {P : Pen} {ns : List Int} (h : PenAt H p P ns) (e : Ex H H') : PenAt H' p P ns := ⟨e _ _ h.at_, e _ _ h.cs, h.i0⟩
theorem PenAt.ne {H : Hp} {p : Addr} {P : Pen} {ns : List Int} (h : PenAt H p P ns) : P.c ≠ p := ne_of h.cs h.at_ (by intro z; cases z)
theorem PenAt.put {H : Hp} {p : Addr} {P P' : Pen} {ns : List Int} (h : PenAt H p P ns) (hc : P'.c = P.c) (h0 : 0 ≤ P'.i) : PenAt (upd H p (.dK P'.kv)) p P' ns := ⟨upd_same, by rw [hc, upd_ne h.ne]; exact h.cs, h0⟩
/-- some pen -/
def PenOk (H : Hp) (p : Addr) : Prop := ∃ P ns, PenAt H p P ns
theorem PenOk.ex {H H' : Hp} {p : Addr} (h : PenOk H p) (e : Ex H H') : PenOk H' p := by
  obtain ⟨P, ns, h⟩ := h
  exact ⟨P, ns, h.ex e⟩
end G7
set_option Elab.async false
set_option linter.all false
set_option maxRecDepth 100000
set_option maxHeartbeats 4000000
/-! identity with True and False, == of lists, of tuples -/
namespace G7
open PySem PySem.Spec PyProof.Rows L2 Evl
/-- x is True, x is False, of any value -/
def rIsC : R2 := fun x y H Q => ∃ b, y = .bl b ∧ Q (.bl (decide (x = .bl b))) H
theorem op_isC {X : Cx} : OpR X (compareOp .Is) rIsC := by
  intro pins s σ H x y v u Q I rx ry h
  obtain ⟨b, rfl, q⟩ := h
  cases (show u = Value.bool b from ry)
  by_cases e : x = .bl b
  · subst e
    cases (show v = Value.bool b from rx)
    exact wpAny_is_self rfl ⟨.bl true, H, I, rfl, by simpa using q⟩
  · rw [decide_eq_false e] at q
    refine wpAny_is_other ?_ (fun z => ?_) ⟨.bl false, H, I, rfl, q⟩
    · cases x <;> first
        | (cases rx; rfl)
        | (obtain ⟨t, rfl⟩ := rx; rfl)
    · subst z
      cases x with
      | bl c =>
        have z : Value.bool b = Value.bool c := rx
        exact e (by rw [Value.bool.inj z])
      | non => exact nomatch (show Value.bool b = Value.none from rx)
      | int i =>
        obtain ⟨t, z⟩ := rx
        exact nomatch z
      | str i =>
        obtain ⟨t, z⟩ := rx
        exact nomatch z
      | byt i =>
        obtain ⟨t, z⟩ := rx
        exact nomatch z
      | flt i =>
        obtain ⟨t, z⟩ := rx
        exact nomatch z
      | ref a => exact nomatch (show Value.bool b = Value.ref a from rx)
      | ty n => exact nomatch (show Value.bool b = Value.type n from rx)
section
variable {K : PySem.W.Frag} {H : Hp} {σ : L2.St} {ta tb te : TE} {x y : V}
theorem et_isC {b c : Bool} (ha : Ev ta σ H x) (hb : Ev tb σ H (.bl b)) (hc : decide (x = .bl b) = c) : EvT (tTest (tOp rIsC ta tb)) σ H c := by
  rw [← hc]
  exact et_test (ev_op ha hb fun H1 _ Q q => ⟨b, rfl, q H1 (Ex.refl H1)⟩)
theorem et_isN {c : Bool} (ha : Ev ta σ H x) (hb : Ev tb σ H .non) (hc : decide (x = .non) = c) : EvT (tTest (tOp (fun x y H Q => y = .non ∧ Q (.bl (decide (x = .non))) H) ta tb)) σ H c := by
  rw [← hc]
  exact et_test (ev_op ha hb fun H1 _ Q q => ⟨rfl, q H1 (Ex.refl H1)⟩)
mutual
theorem Dp.ex {H H' : Hp} (e : Ex H H') : ∀ {d : PyData} {v : V}, Dp K H v d → Dp K H' v d
  | .none, _, h => by cases h; exact .non
  | .bool b, _, h => by cases h; exact .bl b
  | .int i, _, h => by cases h; exact .int i
  | .str z, _, h => by cases h; exact .str z
  | .list ds, _, h => by
    cases h with
    | lst s r => exact .lst (ex_l e s) (DpAll.ex e r)
  | .tuple ds, _, h => by
    cases h with
    | tup s r => exact .tup (ex_t e s) (DpAll.ex e r)
  | .dict _, _, h => nomatch h
theorem DpAll.ex {H H' : Hp} (e : Ex H H') : ∀ {ds : List PyData} {vs : List V}, DpAll K H vs ds → DpAll K H' vs ds
  | [], _, h => by cases h; exact .nil
  | d :: ds, _, h => by
    cases h with
    | cons a b => exact .cons (Dp.ex e a) (DpAll.ex e b)
end
theorem DpAll.ints {H : Hp} : ∀ ns : List Int, DpAll K H (ns.map V.int) (ns.map PyData.int)
  | [] => .nil
  | n :: r => .cons (.int n) (DpAll.ints r)
theorem shaped_ints : ∀ ns : List Int, SeqAt.shaped (.list (ns.map PyData.int)) = true := fun ns => by
  have h : ∀ ns : List Int, PyData.canLayAll0 (ns.map PyData.int) = true := fun ns => by
    induction ns with
    | nil => rfl
    | cons n r ih => simp [PyData.canLayAll0, PyData.canLay0, ih]
  have d : ∀ ns : List Int, PyData.depthAll (ns.map PyData.int) ≤ 1 := fun ns => by
    induction ns with
    | nil => simp [PyData.depthAll]
    | cons n r ih => simp [PyData.depthAll, PyData.depth]; omega
  unfold SeqAt.shaped
  simp [PyData.canLay0, PyData.depth, h]
  have := d ns
  omega
theorem eqvAll_ints : ∀ ns ms : List Int, PyData.eqvAll (ns.map PyData.int) (ms.map PyData.int) = (ns == ms)
  | [], [] => rfl
  | [], _ :: _ => rfl
  | _ :: _, [] => rfl
  | n :: r, m :: t => by
    show (PyData.eqv (.int n) (.int m) && PyData.eqvAll (r.map PyData.int) (t.map PyData.int)) = _
    rw [eqvAll_ints r t, PyData.eqv]
    rfl
/-- == and != of two lists of ints -/
theorem rv_eqL {a b : Addr} {ns ms : List Int} (ha : SqL K H a (ns.map V.int)) (hb : SqL K H b (ms.map V.int)) : RV (rEqD K) (.ref a) (.ref b) H (.bl (ns == ms)) := fun H1 e Q q =>
  ⟨.list (ns.map PyData.int), .list (ms.map PyData.int), .lst (ex_l e ha) (DpAll.ints ns), .lst (ex_l e hb) (DpAll.ints ms), shaped_ints ns, shaped_ints ms, by
    have h : PyData.eqv (.list (ns.map PyData.int)) (.list (ms.map PyData.int)) = (ns == ms) := by rw [PyData.eqv, eqvAll_ints]
    rw [h]
    exact q H1 (Ex.refl H1)⟩
theorem rv_neL {a b : Addr} {ns ms : List Int} (ha : SqL K H a (ns.map V.int)) (hb : SqL K H b (ms.map V.int)) : RV (rNeD K) (.ref a) (.ref b) H (.bl (!(ns == ms))) := fun H1 e Q q =>
  ⟨.list (ns.map PyData.int), .list (ms.map PyData.int), .lst (ex_l e ha) (DpAll.ints ns), .lst (ex_l e hb) (DpAll.ints ms), shaped_ints ns, shaped_ints ms, by
    have h : PyData.eqv (.list (ns.map PyData.int)) (.list (ms.map PyData.int)) = (ns == ms) := by rw [PyData.eqv, eqvAll_ints]
    rw [h]
    exact q H1 (Ex.refl H1)⟩
/-- len(t), t a tuple -/
theorem ev_lenT {p : Addr} {xs : List V} (ha : Ev ta σ H (.ref p)) (h : SqT K H p xs) : Ev (tCB (rLenS K) (tCons ta tNil)) σ H (.int (xs.length : Int)) := fun H1 e Q q =>
  ha H1 e _ fun H2 e2 => ⟨p, xs, rfl, .inr (ex_t (e.trans e2) h), q H2 e2⟩
/-- a, b = x, y by a pair -/
theorem s_tup2 {D : Ends} {i j : Nat} {t : TA} {v w : V} (h : EvA t σ H [v, w]) (k : ∀ H1, Ex H H1 → D.nx ((σ.set i (some v)).set j (some w)) H1) : tAsg (tTup t) (gTup K 2 (gCons (gName i) (gCons (gName j) gNil))) D σ H :=
  h H (Ex.refl H) _ fun H1 e1 => ⟨by show 2 ≤ sizeLine; decide, fun p hp => ⟨p, [v, w], rfl, st_of upd_same, rfl, v, [w], rfl, w, [], rfl, rfl, k _ (e1.trans (Ex.new hp))⟩⟩
theorem given_none (n : Nat) (v : Nat → V) : given n (fun _ => false) v = [] := by
  have e : (List.range n).filter (fun _ => false) = [] := List.filter_eq_nil_iff.mpr fun _ _ z => Bool.false_ne_true z
  unfold given
  rw [e]
  rfl
end
end G7
set_option Elab.async false
set_option linter.all false
set_option maxRecDepth 100000
set_option maxHeartbeats 4000000
/-! a def that is handed the error that an except suite holds; what is asked of that error there; repr -/
namespace G7
open PySem PySem.Spec PyProof.Rows L2 L2H Evl
/-- repr's guards are not standing -/
abbrev Bare (A : Around) : Prop := A.guards = some []
/-- the module's def x, called in a suite that holds the error eo.2 at eo.1 -/
structure HasE (P : Program) (w : World) (K : PySem.W.Frag) (mg : Str → Option Value) (base : Heap) (k : Nat) (x : Str) (ps : List Str) (sp : Sp) (eo : Addr × Obj) : Prop where
  ex : ∃ fd : FuncData, Binds K fd ps [] ∧ (∀ vs H Q E, sp vs H Q E → vs.length = ps.length) ∧ ∀ (B : Around) (fr : List Env) (sh : Shared) (G : Hp) (ar : Args) (us : List Value) (vs : List V) (Q : VK), RoomH k B → Bare B → PinOk fr G sh eo →
    Env0 P w K mg base B fr sh G → BindsTo sh fd ar (ps.zip us) → Vals vs us → sp vs G Q E0 → codeAny (model P w) B (.call (.ref (He.ga K x)) ar) (CR CX0 fr P w G sh Q E0) sh
  kp : PySem.W.keepIn K (.ref (He.ga K x)) = true
  gl : mg x = some (.ref (He.ga K x))
section
variable {P : Program} {w : World} {K : PySem.W.Frag} {mg : Str → Option Value} {base : Heap} {k : Nat} {x : Str} {N ps : List Str} {sp : Sp} {params : Arguments} {body : List Stmt} {scope : Scope} {eo : Addr × Obj}
theorem HasE.of (F : ∃ fd, FunD K x x params body scope [] [] (He.ga K x) fd) (g : mg x = some (.ref (He.ga K x))) (S : FnScope N ps scope)
    (b : ∀ (kV doc pm : Value) (an : Option Addr) (cdv ct : Value) (us : List Value), us.length = ps.length → bindArgs (PySem.W.fnOf x x params body scope .none kV doc pm an cdv ct) ⟨us, []⟩ = pure (ps.zip us))
    (len : ∀ vs H Q E, sp vs H Q E → vs.length = ps.length)
    (hb : ∀ (cdv : Value) (B : Around) (fr : List Env) (sh : Shared) (G : Hp) (vs : List V) (Q : VK), RoomH k (B.deeper (envOfC x scope sh.heap.objs.size (He.ga K x) cdv)) → Bare B → sp vs G Q E0 →
      ∃ t, PSs (cxH CX0 P w K mg base N x scope (He.ga K x) cdv B fr sh G E0 eo) body t ∧ t { nx := fun _ G' => Q .non G', rt := Q } (start N vs) G) : HasE P w K mg base (k + 1) x ps sp eo := by
  obtain ⟨fd, F⟩ := F
  refine ⟨⟨fd, F.bindsN b, len, fun B fr sh G ar us vs Q room bare pin env bt rel ask => ?_⟩, F.kp, g⟩
  obtain ⟨oc, od, dV, kV, doc, pm, an, cdv, ct, osl, rfl, look, code, _, _⟩ := F.ex
  have inK : K.In sh.heap := env.mod.kin.keeps fun a o z => (env.bs a o z).1
  have kinds : ∀ y ∈ ps.zip us, scope.names.lookup y.1 = some .local ∨ (scope.names.lookup y.1 = some .cell ∧ ((cellsFrom (sh.heap.objs.size + 1) scope.names []).lookup y.1).isSome = true) := by
    rintro ⟨n, u⟩ hy
    exact (S.par n (List.of_mem_zip hy).1).imp id fun c => ⟨c, PySem.W.cellsFrom_some _ _ _ (.inl c)⟩
  refine codeAny_call_function room.depth (inK _ _ look) rfl S.co S.gen rfl (PySem.W.codeRec_of inK code) (bt _ _ _ _ (wpAny_newFunctionEnv_cells S.kind kinds fun en hen s2 ic => ?_))
  subst hen
  have lim2 : s2.heap.NoLimit := (env.mod.nolimit.keeps fun a o z => (env.bs a o z).1).keeps ic.toInCall.keep
  obtain ⟨t, ht, ask'⟩ := hb cdv B fr sh G vs Q (room.deeper _) bare ask
  have J : Inv (cxH CX0 P w K mg base N x scope (He.ga K x) cdv B fr sh G E0 eo) [] (start N vs) G s2 := inv_startH S pin env (len _ _ _ _ ask) rel ic
  refine ⟨lim2, codeAny_func (wpAny_mono (ht.run [] s2 _ G _ J ask') (fun fl s3 z => ?_) fun _ _ z => z)⟩
  have back : ∀ {σ3 : L2.St} {G3 : Hp} {v : V} {u : Value}, Inv (cxH CX0 P w K mg base N x scope (He.ga K x) cdv B fr sh G E0 eo) [] σ3 G3 s3 → L2.RelV v u → Q v G3 → CE fr P w G sh Q u s3 := fun {σ3 G3 v u} J3 rv q => ⟨v, G3, J3.os, J3.bare, J3.base, J3.hok, rv, q⟩
  cases fl with
  | ret u =>
    obtain ⟨v, σ3, G3, J3, rv, q⟩ := z
    exact back J3 rv q
  | next =>
    obtain ⟨σ3, G3, J3, q⟩ := z
    exact back (v := .non) (u := .none) J3 rfl q
  | brk =>
    obtain ⟨_, _, _, q⟩ := z
    exact q.elim
  | cont =>
    obtain ⟨_, _, _, q⟩ := z
    exact q.elim
end
section
variable {X : Cx} {k : Nat} {x : Str} {ps : List Str} {sp : Sp} {p pos : Pos} {e : Expr} {es : List Expr} {t : TA} {eo : Addr × Obj}
/-- x(e, ..) where the error eo is held -/
theorem pe_hcE (h : HasE X.prog X.w X.K X.mg X.base k x ps sp eo) (hr : RoomH k X.A) (hbare : Bare X.A) (hp : eo ∈ X.pn) (hg : Gl X x) (ha : PA X (e :: es) t)
    (hd : (x == ("__debug__" : Str)) = false := by decide) (h1 : starEach (e :: es) X.env = (false, eval e X.env) :: starEach es X.env := by rfl) (h2 : (backTo pos (starEach es X.env)).any (·.1) = false := by rfl) :
    PE X (.Call (.Name x p) (e :: es) [] pos) (tCall sp [] E0 t) := by
  obtain ⟨⟨fd, b, len, run⟩, kp, gl⟩ := h
  refine ⟨fun pins s σ H Q I h => wpAny_Call_Name_kw (ld_glob I hg gl (PySem.W.callWith_K (h₀ := X.base) I.ok.mod.kin kp (thn (ha.run pos pins s σ H _ I h) fun us s1 hq => ?_) h1 h2) hd)⟩
  obtain ⟨vs, H1, I1, r, q⟩ := hq
  rw [List.append_nil] at q
  refine ⟨I1.kIn, ?_⟩
  have hl : us.length = ps.length := by rw [← r.length]; exact len _ _ _ _ q
  have bt := b s1 us I1.kIn (by rw [List.append_nil]; exact hl)
  rw [List.append_nil] at bt
  obtain ⟨z1, z2, z3, z4, z5⟩ := I1.pin eo (List.mem_append_left _ hp)
  refine wpAny_call (codeAny_mono (run X.A X.stack s1 H1 ⟨us, []⟩ us vs Q hr hbare ⟨z1, z2, fun m => (List.mem_cons.mp (I1.stkSub eo.1 m)).elim z3 z4, z5⟩ I1.env0 bt r q) fun res s2 hres => ?_)
  cases res with
  | error _ => exact (show False from hres).elim
  | ok fl =>
    cases fl with
    | ret u => exact I1.after hres
    | next => exact False.elim hres
    | brk => exact False.elim hres
    | cont => exact False.elim hres
/-- the held error is of the class at D, its dict at d -/
structure Held (K : PySem.W.Frag) (x : Str) (d : Addr) (o : Obj) : Prop where
  z : Zc (.ref (He.ga K x)) (some d) o
  f : ∃ vs, o.data = .fields vs
theorem Held.inst {fs : List Str} {n : Str} {d : Addr} {ls : List (Str × V)} (T : Own X.K n fs) (h : Held X.K n d eo.2) (hp : eo ∈ X.pn) {pins : List (Addr × Obj)} {s : Shared} {σ : L2.St} {H : Hp} (I : Inv X pins σ H s) (hd : H d = some (.xd ls)) :
    ∃ od, PySem.W.InstAt s.heap eo.1 eo.2 (He.ga X.K n) (some od) ∧ ∃ mA : Str → Option Value, (∀ f, RelO (ls.lookup f) (mA f)) ∧ ∀ f : Str, PySem.W.lookIn f od = some (mA f) := by
  obtain ⟨mA, hns, rel⟩ := (show ObjOk X.prog X.w H s.heap d (.xd ls) from I.hok d _ hd)
  obtain ⟨od, ho, hl⟩ := lookIn_ns hns
  obtain ⟨vs, hdat⟩ := h.f
  have hget := (I.pin eo (List.mem_append_left _ hp)).1
  exact ⟨od, ⟨hget, h.z.1, by unfold PySem.W.notCls; rw [hdat] <;> rfl, by rw [h.z.2]; exact ho⟩, mA, rel, hl⟩
/-- isinstance(e, c) of the held error -/
def rIsH (K : PySem.W.Frag) (n : Str) (a d : Addr) : List V → Hp → VK → Prop := fun xs H Q => ∃ (c : V) (u : Value) (b : Bool) (ls : List (Str × V)), xs = [.ref a, c] ∧ ClsV c u ∧ PySem.W.kitOne K (.ref (He.ga K n)) u = some b ∧ H d = some (.xd ls) ∧ Q (.bl b) H
theorem call_isH {fs : List Str} {n : Str} {d : Addr} (T : Own X.K n fs) (h : Held X.K n d eo.2) (hp : eo ∈ X.pn) : CallR X (.builtin "isinstance") (rIsH X.K n eo.1 d) := by
  intro pins s σ H xs us Q I r ask
  obtain ⟨c, cv, b, ls, rfl, hcv, e, hd, q⟩ := ask
  obtain ⟨u1, u2, rfl, r1, r2⟩ := vals2 r
  obtain rfl : u1 = Value.ref eo.1 := r1
  obtain rfl := hcv.eq r2
  obtain ⟨od, J, _⟩ := h.inst T hp I hd
  obtain ⟨cd, hcl, _⟩ := PySem.W.any_some T.f.hdC
  have hcl' : (PySem.W.clsIn X.K (He.ga X.K n)).isSome = true := by rw [hcl]; rfl
  exact PySem.W.kia_one (PySem.W.kitx_exc hcl' T.e.hg T.e.hk T.e.hs T.e.ha T.e.hn T.e.ht T.e.hm) I.kIn J e (fun z => nomatch z) fun tk => ⟨.bl b, H, I.tok tk, rfl, q⟩
/-- e.f of the held error -/
def tFldH (a d : Addr) (f : Str) (te : TE) : TE := fun σ H Q => te σ H fun y H1 => y = .ref a ∧ ∃ (ls : List (Str × V)) (v : V), H1 d = some (.xd ls) ∧ ls.lookup f = some v ∧ Q v H1
theorem pe_fldH {fs : List Str} {n f : Str} {d : Addr} {te : TE} (T : Own X.K n fs) (h : Held X.K n d eo.2) (hp : eo ∈ X.pn) (hf : f ∈ fs) (he : PE X e te) (hb : attributeBase e f X.env (eval e X.env) = eval e X.env := by rfl) : PE X (.Attribute e f pos) (tFldH eo.1 d f te) := by
  refine ⟨fun pins s σ H Q I ask => attr_of hb (thn (he.run pins s σ H _ I ask) fun u s1 hq => ?_)⟩
  obtain ⟨y, H1, I1, ry, rfl, ls, v, hd, hl, q⟩ := hq
  obtain rfl : u = Value.ref eo.1 := ry
  obtain ⟨od, J, mA, rel, look⟩ := h.inst T hp I1 hd
  obtain ⟨u2, hu, ru⟩ := RelO.some_of (v := v) (o := mA f) (by rw [← hl]; exact rel f)
  exact HandSPX.exc_get I1.kIn J T.f.ga T.f.gg T.f.exC (PySem.W.findObj_own T.f.hdC (T.n f hf) rfl (by rw [look f, hu])) (handed_of ru) ⟨v, H1, I1.tok _, ru, q⟩
/-- repr of plain values -/
inductive ReprIs (K : PySem.W.Frag) (H : Hp) : V → Str → Prop where
  | int (i : Int) (h : i.natAbs.log2 < 1920) : ReprIs K H (.int i) (toString i)
  | non : ReprIs K H .non "None"
  | bl (b : Bool) : ReprIs K H (.bl b) (if b then "True" else "False")
  | str (z : Str) (h : (reprText z).length ≤ sizeLine) : ReprIs K H (.str z) (reprText z)
  | seq {a : Addr} {d : PyData} (h : Dp K H (.ref a) d) (hs : d.showable = true) (hd : d.hasDict = false) (hp : d.depth ≤ 64) (hz : d.shown.length ≤ sizeLine) : ReprIs K H (.ref a) d.shown
theorem ReprIs.ex {K : PySem.W.Frag} {H H' : Hp} {v : V} {z : Str} (e : Ex H H') (h : ReprIs K H v z) : ReprIs K H' v z := by
  cases h with
  | int i h => exact .int i h
  | non => exact .non
  | bl b => exact .bl b
  | str z h => exact .str z h
  | seq h hs hd hp hz => exact .seq (Dp.ex e h) hs hd hp hz
def rRepr (K : PySem.W.Frag) : List V → Hp → VK → Prop := fun xs H Q => ∃ v z, xs = [v] ∧ ReprIs K H v z ∧ Q (.str z) H
theorem call_reprV (hbare : Bare X.A) (hu : X.A.units + 66 < cLine) : CallR X (.builtin "repr") (rRepr X.K) := by
  intro pins s σ H xs us Q I r ask
  obtain ⟨v, z, rfl, hz, q⟩ := ask
  obtain ⟨u, rfl, rv⟩ := vals1 r
  cases hz with
  | int i h =>
    obtain ⟨t, rfl⟩ := rv
    exact PySem.P.repr_of_int h ⟨.str _, H, I.tok _, ⟨_, rfl⟩, q⟩
  | non =>
    obtain rfl : u = Value.none := rv
    exact PySem.P.repr_of_none ⟨.str _, H, I.tok _, ⟨_, rfl⟩, q⟩
  | bl b =>
    obtain rfl : u = Value.bool b := rv
    exact PySem.P.repr_of_bool ⟨.str (if b then "True" else "False"), H, I.tok _, ⟨_, rfl⟩, q⟩
  | str z h =>
    obtain ⟨t, rfl⟩ := rv
    exact PySem.P.repr_of_str ⟨.str _, H, I.tok _, ⟨_, rfl⟩, q⟩ h
  | @seq a d h hs hd hp hz =>
    obtain ⟨as, rd⟩ := Dp.reads I d (.ref a) u h rv
    obtain rfl : u = Value.ref a := rv
    exact repr_of_reads' rd hs (fun z => by rw [hd] at z; cases z) hbare (by omega) (fun _ _ q => q) (fun h' t tk k => ⟨.str _, H, I.kept (t' := tk) k, ⟨t, rfl⟩, q⟩) hz
end
section
variable {K : PySem.W.Frag} {H : Hp} {σ : L2.St} {te : TE} {a d : Addr} {n : Str} {ls : List (Str × V)}
theorem ev_isH {C : Addr} {b : Bool} (h : Ev te σ H (.ref a)) (hd : H d = some (.xd ls)) (k : PySem.W.kitOne K (.ref (He.ga K n)) (.ref C) = some b) : Ev (tCB (rIsH K n a d) (tCons te (tCons (tC (.ref C)) tNil))) σ H (.bl b) := fun H1 e Q q =>
  h H1 e _ fun H2 e2 => ⟨.ref C, .ref C, b, ls, rfl, ClsV.own C, k, (e.trans e2) _ _ hd, q H2 e2⟩
theorem ev_isHT {y : String} {b : Bool} (h : Ev te σ H (.ref a)) (hd : H d = some (.xd ls)) (k : PySem.W.kitOne K (.ref (He.ga K n)) (.type y) = some b) : Ev (tCB (rIsH K n a d) (tCons te (tCons (tC (.ty y)) tNil))) σ H (.bl b) := fun H1 e Q q =>
  h H1 e _ fun H2 e2 => ⟨.ty y, .type y, b, ls, rfl, ClsV.ty y, k, (e.trans e2) _ _ hd, q H2 e2⟩
theorem ev_fldH {f : Str} {v : V} (h : Ev te σ H (.ref a)) (hd : H d = some (.xd ls)) (hl : ls.lookup f = some v) : Ev (tFldH a d f te) σ H v := fun H1 e Q q =>
  h H1 e _ fun H2 e2 => ⟨rfl, ls, v, (e.trans e2) _ _ hd, hl, q H2 e2⟩
theorem ev_repr {v : V} {z : Str} (h : Ev te σ H v) (hz : ReprIs K H v z) : Ev (tCB (rRepr K) (tCons te tNil)) σ H (.str z) := fun H1 e Q q =>
  h H1 e _ fun H2 e2 => ⟨v, z, rfl, hz.ex (e.trans e2), q H2 e2⟩
/-- what follows is known of the error that is held -/
def tGiven (c : Value) (C : Addr) (d : Option Addr) (t : Addr → TS) : TS := fun D σ H => ∃ dd, c = .ref C ∧ d = some dd ∧ t dd D σ H
theorem pss_given {X : Cx} {c : Value} {C : Addr} {d : Option Addr} {ss : List Stmt} {t : Addr → TS} (h : ∀ dd, c = .ref C → d = some dd → PSs X ss (t dd)) : PSs X ss (tGiven c C d t) := ⟨fun pins s σ H D I q => by
  obtain ⟨dd, e1, e2, q⟩ := q
  exact (h dd e1 e2).run pins s σ H D I q⟩
end
/-- the module's def x, called where repr's guards are not standing -/
structure HasG (P : Program) (w : World) (K : PySem.W.Frag) (mg : Str → Option Value) (base : Heap) (k : Nat) (x : Str) (ps : List Str) (sp : Sp) : Prop where
  ex : ∃ fd : FuncData, Binds K fd ps [] ∧ (∀ vs H Q E, sp vs H Q E → vs.length = ps.length) ∧ ∀ (B : Around) (fr : List Env) (sh : Shared) (G : Hp) (ar : Args) (us : List Value) (vs : List V) (Q : VK), Room k B → Bare B →
    Env0 P w K mg base B fr sh G → BindsTo sh fd ar (ps.zip us) → Vals vs us → sp vs G Q E0 → codeAny (model P w) B (.call (.ref (He.ga K x)) ar) (CR CX0 fr P w G sh Q E0) sh
  kp : PySem.W.keepIn K (.ref (He.ga K x)) = true
  gl : mg x = some (.ref (He.ga K x))
section
variable {P : Program} {w : World} {K : PySem.W.Frag} {mg : Str → Option Value} {base : Heap} {k : Nat} {x : Str} {N ps : List Str} {sp : Sp} {params : Arguments} {body : List Stmt} {scope : Scope}
theorem Has.toG (h : Has P w K mg base CX0 k x ps sp) : HasG P w K mg base k x ps sp := by
  obtain ⟨⟨fd, a, b⟩, c, d⟩ := h
  exact ⟨⟨fd, b, a.len, fun B fr sh G ar us vs Q r _ e t v z => a.run B fr sh G ar us vs Q E0 r e t v z⟩, c, d⟩
theorem HasG.of (F : ∃ fd, FunD K x x params body scope [] [] (He.ga K x) fd) (g : mg x = some (.ref (He.ga K x))) (S : FnScope N ps scope)
    (b : ∀ (kV doc pm : Value) (an : Option Addr) (cdv ct : Value) (us : List Value), us.length = ps.length → bindArgs (PySem.W.fnOf x x params body scope .none kV doc pm an cdv ct) ⟨us, []⟩ = pure (ps.zip us))
    (len : ∀ vs H Q E, sp vs H Q E → vs.length = ps.length)
    (hb : ∀ (cdv : Value) (B : Around) (fr : List Env) (sh : Shared) (G : Hp) (vs : List V) (Q : VK), cdv = .ref (He.codeOf K (x, none)) → Room k (B.deeper (envOfC x scope sh.heap.objs.size (He.ga K x) cdv)) → Bare B → sp vs G Q E0 →
      ∃ t, PSs (cxOf CX0 P w K mg base N x scope (He.ga K x) cdv B fr sh G E0).nox body t ∧ t { nx := fun _ G' => Q .non G', rt := Q } (start N vs) G) : HasG P w K mg base (k + 1) x ps sp := by
  obtain ⟨fd, F⟩ := F
  refine ⟨⟨fd, F.bindsN b, len, fun B fr sh G ar us vs Q room bare env bt rel ask => ?_⟩, F.kp, g⟩
  obtain ⟨oc, od, dV, kV, doc, pm, an, cdv, ct, osl, rfl, look, code, _, _⟩ := F.ex
  obtain ⟨c, rfl⟩ := He.codeIn_ref code
  have ec : He.codeOf K (x, none) = c := He.codeOf_eq (p := (x, none)) look rfl
  refine LamX.run_ofS look code S room env bt rel (len _ _ _ _ ask) fun room' => ?_
  obtain ⟨t, a, q⟩ := hb (.ref c) B fr sh G vs Q (by rw [ec]) room' bare ask
  exact ⟨t, a.nox, q⟩
end
section
variable {X : Cx} {k : Nat} {x : Str} {ps : List Str} {sp : Sp} {p pos : Pos} {e : Expr} {es : List Expr} {t : TA}
theorem pe_hcG (h : HasG X.prog X.w X.K X.mg X.base k x ps sp) (hr : Room k X.A) (hbare : Bare X.A) (hg : Gl X x) (ha : PA X (e :: es) t)
    (hd : (x == ("__debug__" : Str)) = false := by decide) (h1 : starEach (e :: es) X.env = (false, eval e X.env) :: starEach es X.env := by rfl) (h2 : (backTo pos (starEach es X.env)).any (·.1) = false := by rfl) :
    PE X (.Call (.Name x p) (e :: es) [] pos) (tCall sp [] E0 t) := by
  obtain ⟨⟨fd, b, len, run⟩, kp, gl⟩ := h
  refine ⟨fun pins s σ H Q I h => wpAny_Call_Name_kw (ld_glob I hg gl (PySem.W.callWith_K (h₀ := X.base) I.ok.mod.kin kp (thn (ha.run pos pins s σ H _ I h) fun us s1 hq => ?_) h1 h2) hd)⟩
  obtain ⟨vs, H1, I1, r, q⟩ := hq
  rw [List.append_nil] at q
  refine ⟨I1.kIn, ?_⟩
  have hl : us.length = ps.length := by rw [← r.length]; exact len _ _ _ _ q
  have bt := b s1 us I1.kIn (by rw [List.append_nil]; exact hl)
  rw [List.append_nil] at bt
  refine wpAny_call (codeAny_mono (run X.A X.stack s1 H1 ⟨us, []⟩ us vs Q hr hbare I1.env0 bt r q) fun res s2 hres => ?_)
  cases res with
  | error _ => exact (show False from hres).elim
  | ok fl =>
    cases fl with
    | ret u => exact I1.after hres
    | next => exact False.elim hres
    | brk => exact False.elim hres
    | cont => exact False.elim hres
end
end G7
set_option Elab.async false
set_option linter.all false
set_option maxRecDepth 100000
set_option maxHeartbeats 4000000
/-! lists in order -/
namespace G7
open PySem PySem.Spec PyProof.Rows L2 Evl
/-- x < y, item by item -/
def ltL : List Int → List Int → Bool
  | [], [] => false
  | [], _ :: _ => true
  | _ :: _, [] => false
  | x :: xs, y :: ys => if x = y then ltL xs ys else decide (x < y)
theorem toks_lt : ∀ xs ys : List Int, PyProof.Rows.lexLt itemOrd (PySem.W.keyToksAll (xs.map PyData.int)) (PySem.W.keyToksAll (ys.map PyData.int)) = ltL xs ys
  | [], [] => rfl
  | [], y :: ys => rfl
  | x :: xs, [] => rfl
  | x :: xs, y :: ys => by
    show PyProof.Rows.lexLt itemOrd (.inl 1 :: .inl x :: PySem.W.keyToksAll (xs.map PyData.int)) (.inl 1 :: .inl y :: PySem.W.keyToksAll (ys.map PyData.int)) = _
    rw [lex_self (O := itemOrd)]
    by_cases e : x = y
    · subst e
      rw [lex_self (O := itemOrd), toks_lt xs ys]
      simp [ltL]
    · rw [lex_diff (O := itemOrd) (fun z => e (Sum.inl.inj z))]
      simp only [ltL, if_neg e]
      rfl
theorem dataLt_ints (xs ys : List Int) : PySem.W.dataLt (.list (xs.map PyData.int)) (.list (ys.map PyData.int)) = ltL xs ys := toks_lt xs ys
theorem alike_ints : ∀ xs ys : List Int, PySem.W.alikeAll (xs.map PyData.int) (ys.map PyData.int) = true
  | [], _ => by simp [PySem.W.alikeAll]
  | _ :: _, [] => by simp [PySem.W.alikeAll]
  | x :: xs, y :: ys => by simp [PySem.W.alikeAll, PySem.W.alike, alike_ints xs ys]
theorem depth_ints (xs : List Int) : (PyData.list (xs.map PyData.int)).depth ≤ 2 := by
  have d : ∀ ns : List Int, PyData.depthAll (ns.map PyData.int) ≤ 1 := fun ns => by
    induction ns with
    | nil => simp [PyData.depthAll]
    | cons n r ih => simp [PyData.depthAll, PyData.depth]; omega
  have := d xs
  simp [PyData.depth]
  omega
/-- x > y, two lists of ints -/
def rGtL (K : PySem.W.Frag) : R2 := fun x y H Q => ∃ (a b : Addr) (ns ms : List Int), x = .ref a ∧ y = .ref b ∧ SqL K H a (ns.map V.int) ∧ SqL K H b (ms.map V.int) ∧ Q (.bl (ltL ms ns)) H
theorem op_gtL {X : Cx} (hu : X.A.units + 64 < cLine) : OpR X (compareOp .Gt) (rGtL X.K) := by
  intro pins s σ H x y v u Q I rx ry h
  obtain ⟨a, b, ns, ms, rfl, rfl, ha, hb, q⟩ := h
  obtain ⟨as, r1⟩ := Dp.reads I (.list (ns.map PyData.int)) (.ref a) v (.lst ha (DpAll.ints ns)) rx
  obtain ⟨bs, r2⟩ := Dp.reads I (.list (ms.map PyData.int)) (.ref b) u (.lst hb (DpAll.ints ms)) ry
  refine PySem.W.gt_data r1 r2 (by rw [PySem.W.alike]; exact alike_ints ns ms) (fun z => nomatch z) (by have := depth_ints ns; omega) ⟨.bl _, H, I, rfl, ?_⟩
  rw [dataLt_ints]
  exact q
section
variable {K : PySem.W.Frag} {H : Hp} {σ : L2.St} {ta tb te : TE}
theorem rv_gtL {a b : Addr} {ns ms : List Int} (ha : SqL K H a (ns.map V.int)) (hb : SqL K H b (ms.map V.int)) : RV (rGtL K) (.ref a) (.ref b) H (.bl (ltL ms ns)) := fun H1 e Q q =>
  ⟨a, b, ns, ms, rfl, rfl, ex_l e ha, ex_l e hb, q H1 (Ex.refl H1)⟩
/-- xs * k, xs a new list -/
theorem el_rep {xs : List V} {k : Nat} (ha : EvL ta σ H xs) (hb : ∀ H1, Ex H H1 → Ev tb σ H1 (.int (k : Int))) (hk : k ≤ 1000) (hz : xs.length * k ≤ 100000) : EvL (tOp rRep ta tb) σ H (List.replicate k xs).flatten := fun H1 e Q q =>
  ha H1 e _ fun p H2 hp e2 h2 => hb H2 (e.trans e2) H2 (Ex.refl H2) _ fun H3 e3 => ⟨p, (k : Int), xs, rfl, rfl, e3 _ _ h2, by omega, by omega, by rw [Int.toNat_natCast]; exact sz_of hz, fun r hr => by
    rw [Int.toNat_natCast]
    exact q r _ (fresh_back (e2.trans e3) hr) ((e2.trans e3).trans (Ex.new hr)) upd_same⟩
end
end G7
set_option Elab.async false
set_option linter.all false
set_option maxRecDepth 100000
set_option maxHeartbeats 2000000
/-! the end of a law whose def asks for a bare round (repr of tuples), with tables -/
namespace G8
open PySem PySem.Spec PyProof.Rows L2 G7 LamX
abbrev tabO : Obj := { cls := .none, data := .fields #[] }
abbrev scrO (vs : List Value) : Obj := { cls := .type "list", data := .seq vs.toArray }
/-- where the law starts: the tables, and the script if the facts do not hold it -/
def Hq (K : PySem.W.Frag) (ts : List Addr) (a : Addr) (vs : List Value) (ns : List Int) : Hp := fun b =>
  if b ∈ ts then some (.tbl #[]) else if b = a ∧ K.lookup a = none then some (.frz (scrO vs) (.lst (ns.map V.int))) else none
section
variable {P : Program} {w : World} {K : PySem.W.Frag} {mg mb : Str → Option Value} {ts : List Addr} {a : Addr} {vs : List Value} {ns : List Int} {h : Heap}
theorem Hq.look {b : Addr} {u : HO} (e : Hq K ts a vs ns b = some u) : (b ∈ ts ∧ u = .tbl #[]) ∨ (b = a ∧ K.lookup a = none ∧ u = .frz (scrO vs) (.lst (ns.map V.int))) := by
  unfold Hq at e
  split at e
  · rename_i m
    exact .inl ⟨m, (Option.some.inj e).symm⟩
  · split at e
    · rename_i m
      exact .inr ⟨m.1, m.2, (Option.some.inj e).symm⟩
    · cases e
theorem Hq.tab {b : Addr} (m : b ∈ ts) : Hq K ts a vs ns b = some (.tbl #[]) := by
  unfold Hq
  rw [if_pos m]
/-- what the start tells of an address is a table or the script -/
theorem Hq.obj (hT : ∀ t ∈ ts, h.get? t = some tabO) (hs : h.get? a = some (scrO vs)) {b : Addr} {u : HO} (e : Hq K ts a vs ns b = some u) : h.get? b = some tabO ∨ h.get? b = some (scrO vs) := by
  rcases Hq.look e with ⟨m, _⟩ | ⟨rfl, _, _⟩
  · exact .inl (hT _ m)
  · exact .inr hs
theorem Hq.off (hT : ∀ t ∈ ts, h.get? t = some tabO) (hs : h.get? a = some (scrO vs)) {b : Addr} {o : Obj} (g : h.get? b = some o) (n1 : o.data ≠ .fields #[]) (n2 : ∀ xs n, o.data ≠ .seq xs n) : (hidT h (Hq K ts a vs ns)).get? b = some o := by
  refine hidT_get g ?_
  cases q : Hq K ts a vs ns b with
  | none => rfl
  | some u =>
    rcases Hq.obj hT hs q with z | z
    · rw [g] at z
      rw [Option.some.inj z] at n1
      exact absurd rfl n1
    · rw [g] at z
      rw [Option.some.inj z] at n2
      exact absurd rfl (n2 _ _)
theorem Hq.nsp (hT : ∀ t ∈ ts, h.get? t = some tabO) (hs : h.get? a = some (scrO vs)) {b : Addr} {m : Str → Option Value} (g : h.Ns b m) : (hidT h (Hq K ts a vs ns)).Ns b m := by
  obtain ⟨o, es, ep, g1, g2, g3⟩ := g
  exact ⟨o, es, ep, Hq.off hT hs g1 (fun z => by rw [g2] at z; cases z) (fun xs n z => by rw [g2] at z; cases z), g2, g3⟩
theorem Hq.kin (KX : K.In h) (hT : ∀ t ∈ ts, h.get? t = some tabO) (nT : ∀ t ∈ ts, K.lookup t = none) : K.In (hidT h (Hq K ts a vs ns)) := fun b o e => by
  refine hidT_get (KX b o e) ?_
  cases q : Hq K ts a vs ns b with
  | none => rfl
  | some u =>
    rcases Hq.look q with ⟨m, _⟩ | ⟨rfl, z, _⟩
    · rw [nT b m] at e
      cases e
    · rw [z] at e
      cases e
theorem Hq.seq (KX : K.In h) (nA : a ∉ ts) (hs : h.get? a = some (scrO vs)) (rv : Vals (ns.map V.int) vs) (hl : ns.length ≤ sizeLine) : SqL K (Hq K ts a vs ns) a (ns.map V.int) := by
  cases q : K.lookup a with
  | none =>
    refine .inl (.inr ⟨scrO vs, ?_⟩)
    unfold Hq
    rw [if_neg nA, if_pos ⟨rfl, q⟩]
  | some o =>
    have g := KX a o q
    rw [hs] at g
    have e := Option.some.inj g
    subst e
    have lv := rv.length
    rw [List.length_map] at lv
    exact .inr ⟨_, vs.toArray, _, q, rfl, rfl, rfl, by rw [List.size_toArray, ← lv]; exact hl, by simpa using rv⟩
theorem Hq.ok (hT : ∀ t ∈ ts, h.get? t = some tabO) (hs : h.get? a = some (scrO vs)) (rv : Vals (ns.map V.int) vs) (hl : ns.length ≤ sizeLine) : L2.HOk P w (Hq K ts a vs ns) h := fun b u e => by
  rcases Hq.look e with ⟨m, rfl⟩ | ⟨rfl, _, rfl⟩
  · exact hT b m
  · exact ⟨hs, by rw [List.length_map]; exact hl, vs, _, rv, hs⟩
theorem Hq.code (hT : ∀ t ∈ ts, h.get? t = some tabO) (hs : h.get? a = some (scrO vs)) {c t : Addr} (mt : t ∈ ts) (C : PySem.W.CodeHd h c t) (g : h.Ns mainGlobals mg)
    (B : ∃ (b : Addr) (o : Obj), mg "__builtins__" = some (.ref b) ∧ b ≠ builtinsNs ∧ h.get? b = some o ∧ o.cls = .type "module" ∧ o.dict = some builtinsNs ∧ o.data = .plain) : TabB (hidT h (Hq K ts a vs ns)) mg c t := by
  have ht := hT t mt
  refine ⟨?_, ?_, fun z => ?_⟩
  · obtain ⟨o, us, f1, f2, f3, f4, f5, f6, f7, g1, g2, g3, r⟩ := C
    exact ⟨o, us, f1, f2, f3, f4, f5, f6, f7, Hq.off hT hs g1 (fun z => by rw [g3] at z; cases z; simp at r) (fun xs n z => by rw [g3] at z; cases z), g2, g3, r⟩
  · obtain ⟨b, o, b1, b2, b3, b4, b5, b6⟩ := B
    refine ⟨b, o, b1, b2, fun z => ?_, fun z => ?_, Hq.off hT hs b3 (fun z => by rw [b6] at z; cases z) (fun xs n z => by rw [b6] at z; cases z), b4, b5, b6⟩
    · obtain ⟨o2, es, ep, q1, q2, _⟩ := g
      rw [← z, b3] at q1
      rw [← Option.some.inj q1, b6] at q2
      cases q2
    · rw [z, ht] at b3
      rw [← Option.some.inj b3] at b6
      cases b6
  · obtain ⟨o, es, ep, q1, q2, _⟩ := g
    rw [z, ht] at q1
    rw [← Option.some.inj q1] at q2
    cases q2
end
section
variable {P : Program} {w : World} {K : PySem.W.Frag} {mg mb : Str → Option Value} {cs : List (Addr × Addr)} {k : Nat} {x p : Str} {sp : Sp} {sh : Shared} {a : Addr} {vs : List Value} {ns : List Int}
/-- the law's call -/
theorem called (KX : K.In sh.heap) (g1 : sh.heap.Ns mainGlobals mg) (g2 : sh.heap.Ns builtinsNs mb) (g3 : ∀ y : Str, y ≠ "__name__" → mb y = bootBuiltins y) (g4 : sh.heap.NoLimit) (g5 : sh.gens = #[])
    (B : ∃ (b : Addr) (o : Obj), mg "__builtins__" = some (.ref b) ∧ b ≠ builtinsNs ∧ sh.heap.get? b = some o ∧ o.cls = .type "module" ∧ o.dict = some builtinsNs ∧ o.data = .plain)
    (hT : ∀ c ∈ cs, sh.heap.get? c.2 = some tabO) (nT : ∀ c ∈ cs, K.lookup c.2 = none) (C : ∀ c ∈ cs, PySem.W.CodeHd sh.heap c.1 c.2)
    (hs : sh.heap.get? a = some (scrO vs)) (hi : IntsAre vs ns) (hl : ns.length ≤ sizeLine) (room : Room k callerA)
    (F : ∀ base : Heap, K.In base → base.Ns mainGlobals mg → (∀ c ∈ cs, TabB base mg c.1 c.2) → HasG P w K mg base k x [p] sp)
    (ask : ∀ H : Hp, (∀ c ∈ cs, H c.2 = some (.tbl #[])) → SqL K H a (ns.map V.int) → sp [.ref a] H (fun v _ => v = .bl true) E0) :
    codeAny (model P w) callerA (.call (.ref (He.ga K x)) ⟨[.ref a], []⟩) (fun r s' => r = .ok (.ret (.bool true)) ∧ OldK sh.heap s'.heap ∧ s'.os = sh.os ∧ AllBare s'.gens) sh := by
  have tT : ∀ t ∈ cs.map (·.2), sh.heap.get? t = some tabO := fun t ht => by
    obtain ⟨c, hc, rfl⟩ := List.mem_map.mp ht
    exact hT c hc
  have tN : ∀ t ∈ cs.map (·.2), K.lookup t = none := fun t ht => by
    obtain ⟨c, hc, rfl⟩ := List.mem_map.mp ht
    exact nT c hc
  have mem : ∀ c ∈ cs, c.2 ∈ cs.map (·.2) := fun c hc => List.mem_map.mpr ⟨c, hc, rfl⟩
  have nA : a ∉ cs.map (·.2) := fun z => by
    have q := tT a z
    rw [hs] at q
    have q' := congrArg Obj.cls (Option.some.inj q)
    cases q'
  have rv := vals_ints hi
  obtain ⟨H, eH⟩ : ∃ H, H = Hq K (cs.map (·.2)) a vs ns := ⟨_, rfl⟩
  have tab : ∀ {b : Addr}, b ∈ cs.map (·.2) → H b = some (.tbl #[]) := fun m => by
    rw [eH]
    exact Hq.tab m
  have kin : K.In (hidT sh.heap H) := by
    rw [eH]
    exact Hq.kin KX tT tN
  have nsp : ∀ {b : Addr} {m : Str → Option Value}, sh.heap.Ns b m → (hidT sh.heap H).Ns b m := fun g => by
    rw [eH]
    exact Hq.nsp tT hs g
  have hok : L2.HOk P w H sh.heap := by
    rw [eH]
    exact Hq.ok tT hs rv hl
  have sq : SqL K H a (ns.map V.int) := by
    rw [eH]
    exact Hq.seq KX nA hs rv hl
  obtain ⟨⟨fd, bd, _, go⟩, _, _⟩ := F _ kin (nsp g1) fun c hc => by
    rw [eH]
    exact Hq.code tT hs (mem c hc) (C c hc) g1 B
  have bt := bd sh [.ref a] KX rfl
  rw [List.append_nil] at bt
  have md : L2.Mod K mg (hidT sh.heap H) := by
    obtain ⟨mc, q1, q2⟩ := g4
    exact ⟨kin, nsp g1, ⟨mb, nsp g2, g3⟩, ⟨mc, nsp q1, q2⟩⟩
  have env : Env0 P w K mg (hidT sh.heap H) callerA [] sh H :=
    ⟨rfl, md, fun b o e => of_hidT e, Nat.le_of_eq (hidT_size _ _), trivial, fun b hb => (nomatch (show b ∈ ([] : List Addr) from hb)), hok, .of_eq g5⟩
  refine codeAny_mono (go callerA [] sh H ⟨[.ref a], []⟩ [.ref a] [.ref a] _ room rfl env bt (.cons rfl .nil) (ask H (fun c hc => tab (mem c hc)) sq)) fun r s' told => ?_
  match r, told with
  | .error e, told => exact (show False from told).elim
  | .ok .next, told => exact (show False from told).elim
  | .ok .brk, told => exact (show False from told).elim
  | .ok .cont, told => exact (show False from told).elim
  | .ok (.ret u), ⟨v, H', os, bare, un, hok', rv', q⟩ =>
    have q : v = .bl true := q
    subst q
    have ru : u = Value.bool true := rv'
    subst ru
    have same : ∀ b o, b ∉ cs.map (·.2) → sh.heap.get? b = some o → s'.heap.get? b = some o := fun b o nb e => by
      cases q : H b with
      | none => exact un.keep b o e q (fun z => nomatch (show b ∈ ([] : List Addr) from z)) (fun z => nomatch z)
      | some z =>
        have l : Hq K (cs.map (·.2)) a vs ns b = some z := by
          rw [← eH]
          exact q
        rcases Hq.look l with ⟨m, _⟩ | ⟨_, _, rfl⟩
        · exact absurd m nb
        · have old := (hok b _ q).1
          rw [e] at old
          rw [Option.some.inj old]
          exact (hok' b _ (un.frzs b _ _ q)).1
    refine ⟨rfl, ⟨fun b o e => ?_, fun b o e => ?_⟩, os, bare⟩
    · by_cases m : b ∈ cs.map (·.2)
      · obtain ⟨more, z⟩ := un.tbls b #[] (tab m)
        have at' := hok' b _ z
        obtain ⟨c, hc, rfl⟩ := List.mem_map.mp m
        rw [hT c hc] at e
        obtain rfl := Option.some.inj e
        exact .inr (.inl ⟨((C c hc).tab (hT c hc)).isCodeTable, rfl, #[], more, rfl, at'⟩)
      · exact .inl (same b o m e)
    · by_cases m : b ∈ cs.map (·.2)
      · obtain ⟨more, z⟩ := un.tbls b #[] (tab m)
        exact ⟨_, hok' b _ z⟩
      · exact ⟨o, same b o m e⟩
/-- what the head's facts tell for a law of that kind -/
def Told (l : PySem.W.OpenLaw) (w : World) (k n : Nat) (x p : Str) (mg : Str → Option Value) (fa : Addr) (h : Heap) : Prop :=
  ∃ (K : PySem.W.Frag) (cs : List (Addr × Addr)) (sp : Sp), K.In h ∧ fa = He.ga K x ∧ (∀ c ∈ cs, h.get? c.2 = some tabO) ∧ (∀ c ∈ cs, K.lookup c.2 = none) ∧ (∀ c ∈ cs, PySem.W.CodeHd h c.1 c.2) ∧
    (∀ base : Heap, K.In base → base.Ns mainGlobals mg → (∀ c ∈ cs, TabB base mg c.1 c.2) → HasG l.prog w K mg base k x [p] sp) ∧
    ∀ (H : Hp) (a : Addr) (ns : List Int), ns.length ≤ n → (∀ z ∈ ns, Builtin.Int.intBits z ≤ 1048576) → (∀ c ∈ cs, H c.2 = some (.tbl #[])) → SqL K H a (ns.map V.int) → sp [.ref a] H (fun v _ => v = .bl true) E0
theorem walked {l : PySem.W.OpenLaw} {n k : Nat} {q : Program} {loose : List Str} {X : (Str → Option Value) → Heap → Prop} {Y : World → Heap → Prop} {d : DefRec} {x p : Str}
    (most : l.most = some n) (line : n ≤ sizeLine) (df : d.params.defaults = []) (room : Room k callerA)
    (F : ∀ (w : World) (mg : Str → Option Value) (fa : Addr) (h : Heap), Y w h → h.Ns mainGlobals mg → mg d.name = some (.ref fa) → Told l w k n x p mg fa h) :
    PySem.W.WalkO q loose X Y l.row.toRowW d [] (fun f vs => PySem.call f vs) :=
  Att.attach_callB most df fun w sh0 sh mg mb fa o pm cd doc a vs ns G hy _ _ _ g hs hi ln bits gens => by
    obtain ⟨K, cs, sp, KX, rfl, hT, nT, C, hF, ask⟩ := F w mg fa _ hy G.T.g g
    exact called KX G.T.g G.T.b G.T.builtins G.T.nolimit gens G.T.bmain hT nT C hs hi (Nat.le_trans ln line) room hF fun H h1 h2 => ask H a ns ln bits h1 h2
end
end G8
set_option Elab.async false
set_option linter.all false
set_option maxRecDepth 100000
set_option maxHeartbeats 4000000
namespace K91
open PySem PySem.Spec PyProof.Rows L2 Evl G7

def top (i : Nat) : Stmt := PySem.Challenge.pw_allwritings_k91_whole_morse_and_loreti.main.body.getD i (.Pass ⟨0, 0, 0, 0⟩)
abbrev s_BadNumber_init : Stmt := inClass (top 2) 0
abbrev s_is_integer : Stmt := top 19
abbrev s_as_tuples : Stmt := top 21
abbrev s_is_between : Stmt := top 22
abbrev s_need_figure : Stmt := top 25
abbrev s_need_between : Stmt := top 28
abbrev s_morse_item : Stmt := top 29
abbrev s_Row_init : Stmt := inClass (top 31) 0
abbrev s_golden_by : Stmt := top 34
abbrev s_golden_row : Stmt := top 35
abbrev s_odd_ones : Stmt := top 36
abbrev s_loreti_by : Stmt := top 37
abbrev s_loreti_item : Stmt := top 38
abbrev s_law_pen : Stmt := top 40
abbrev s_law_draw : Stmt := top 41
abbrev s_law_pick : Stmt := top 42
abbrev s_law_is : Stmt := top 43
abbrev s_law_wide : Stmt := top 44
abbrev s_law_fault : Stmt := top 45
abbrev s_law_kinds : Stmt := top 46
abbrev s_law_more_kinds : Stmt := top 47
abbrev s_law_aw_morse : Stmt := top 48
abbrev s_law_aw_loreti : Stmt := top 49
abbrev s_law_morse_fault : Stmt := top 50
abbrev s_law_right : Stmt := top 51
abbrev s_law_row_right : Stmt := top 52
abbrev s_law : Stmt := top 53
theorem sc_BadNumber_init : FnScope ["self", "what", "number"] ["self", "what", "number"] (defScope s_BadNumber_init) := ⟨rfl, rfl, rfl, by decide +kernel, rfl, by decide +kernel, by decide +kernel⟩
theorem sc_is_integer : FnScope ["value"] ["value"] (defScope s_is_integer) := ⟨rfl, rfl, rfl, by decide +kernel, rfl, by decide +kernel, by decide +kernel⟩
theorem sc_as_tuples : FnScope ["value", "one"] ["value"] (defScope s_as_tuples) := ⟨rfl, rfl, rfl, by decide +kernel, rfl, by decide +kernel, by decide +kernel⟩
theorem sc_is_between : FnScope ["value", "low", "high"] ["value", "low", "high"] (defScope s_is_between) := ⟨rfl, rfl, rfl, by decide +kernel, rfl, by decide +kernel, by decide +kernel⟩
theorem sc_need_figure : FnScope ["m"] ["m"] (defScope s_need_figure) := ⟨rfl, rfl, rfl, by decide +kernel, rfl, by decide +kernel, by decide +kernel⟩
theorem sc_need_between : FnScope ["what", "number", "low", "high"] ["what", "number", "low", "high"] (defScope s_need_between) := ⟨rfl, rfl, rfl, by decide +kernel, rfl, by decide +kernel, by decide +kernel⟩
theorem sc_morse_item : FnScope ["at", "found"] ["at"] (defScope s_morse_item) := ⟨rfl, rfl, rfl, by decide +kernel, rfl, by decide +kernel, by decide +kernel⟩
theorem sc_Row_init : FnScope ["self", "ahead", "ring"] ["self", "ahead", "ring"] (defScope s_Row_init) := ⟨rfl, rfl, rfl, by decide +kernel, rfl, by decide +kernel, by decide +kernel⟩
theorem sc_golden_by : FnScope ["m", "k"] ["m"] (defScope s_golden_by) := ⟨rfl, rfl, rfl, by decide +kernel, rfl, by decide +kernel, by decide +kernel⟩
theorem sc_golden_row : FnScope ["m", "ahead", "ring"] ["m"] (defScope s_golden_row) := ⟨rfl, rfl, rfl, by decide +kernel, rfl, by decide +kernel, by decide +kernel⟩
theorem sc_odd_ones : FnScope ["n", "found"] ["n"] (defScope s_odd_ones) := ⟨rfl, rfl, rfl, by decide +kernel, rfl, by decide +kernel, by decide +kernel⟩
theorem sc_loreti_by : FnScope ["m", "i", "k", "one"] ["m", "i"] (defScope s_loreti_by) := ⟨rfl, rfl, rfl, by decide +kernel, rfl, by decide +kernel, by decide +kernel⟩
theorem sc_loreti_item : FnScope ["m", "i"] ["m", "i"] (defScope s_loreti_item) := ⟨rfl, rfl, rfl, by decide +kernel, rfl, by decide +kernel, by decide +kernel⟩
theorem sc_law_pen : FnScope ["script", "fold", "cell"] ["script"] (defScope s_law_pen) := ⟨rfl, rfl, rfl, by decide +kernel, rfl, by decide +kernel, by decide +kernel⟩
theorem sc_law_draw : FnScope ["pen", "many", "cell", "digit", "blend"] ["pen", "many"] (defScope s_law_draw) := ⟨rfl, rfl, rfl, by decide +kernel, rfl, by decide +kernel, by decide +kernel⟩
theorem sc_law_pick : FnScope ["pen", "some"] ["pen", "some"] (defScope s_law_pick) := ⟨rfl, rfl, rfl, by decide +kernel, rfl, by decide +kernel, by decide +kernel⟩
theorem sc_law_is : FnScope ["told", "due", "at"] ["told", "due"] (defScope s_law_is) := ⟨rfl, rfl, rfl, by decide +kernel, rfl, by decide +kernel, by decide +kernel⟩
theorem sc_law_wide : FnScope ["pen", "figures", "found", "top", "lap"] ["pen", "figures"] (defScope s_law_wide) := ⟨rfl, rfl, rfl, by decide +kernel, rfl, by decide +kernel, by decide +kernel⟩
theorem sc_law_fault : FnScope ["call", "found", "e"] ["call"] (defScope s_law_fault) := ⟨rfl, rfl, rfl, by decide +kernel, rfl, by decide +kernel, by decide +kernel⟩
theorem sc_law_kinds : FnScope ["e", "found"] ["e"] (defScope s_law_kinds) := ⟨rfl, rfl, rfl, by decide +kernel, rfl, by decide +kernel, by decide +kernel⟩
theorem sc_law_more_kinds : FnScope ["e", "found"] ["e"] (defScope s_law_more_kinds) := ⟨rfl, rfl, rfl, by decide +kernel, rfl, by decide +kernel, by decide +kernel⟩
theorem sc_law_aw_morse : FnScope ["at", "found"] ["at"] (defScope s_law_aw_morse) := ⟨rfl, rfl, rfl, by decide +kernel, rfl, by decide +kernel, by decide +kernel⟩
theorem sc_law_aw_loreti : FnScope ["m", "at"] ["m", "at"] (defScope s_law_aw_loreti) := ⟨rfl, rfl, rfl, by decide +kernel, rfl, by decide +kernel, by decide +kernel⟩
theorem sc_law_morse_fault : FnScope ["at"] ["at"] (defScope s_law_morse_fault) := ⟨rfl, rfl, rfl, by decide +kernel, rfl, by decide +kernel, by decide +kernel⟩
theorem sc_law_right : FnScope ["pen", "at", "start", "long", "some", "k"] ["pen"] (defScope s_law_right) := ⟨rfl, rfl, rfl, by decide +kernel, rfl, by decide +kernel, by decide +kernel⟩
theorem sc_law_row_right : FnScope ["m", "row", "i", "one", "at", "tail", "gold", "k"] ["m"] (defScope s_law_row_right) := ⟨rfl, rfl, rfl, by decide +kernel, rfl, by decide +kernel, by decide +kernel⟩
theorem sc_law : FnScope ["script", "pen", "lap", "odd", "at", "i"] ["script"] (defScope s_law) := ⟨rfl, rfl, rfl, by decide +kernel, rfl, by decide +kernel, by decide +kernel⟩
theorem bd_BadNumber_init (kV doc pm : Value) (an : Option Addr) (cdv ct : Value) (us : List Value) (hl : us.length = (["self", "what", "number"] : List Str).length) : bindArgs (PySem.W.fnOf "__init__" "BadNumber.__init__" (defArgs s_BadNumber_init) (defBody s_BadNumber_init) (defScope s_BadNumber_init) .none kV doc pm an cdv ct) ⟨us, []⟩ = pure ((["self", "what", "number"] : List Str).zip us) := match us, hl with | [_, _, _], _ => rfl
theorem bd_is_integer (kV doc pm : Value) (an : Option Addr) (cdv ct : Value) (us : List Value) (hl : us.length = (["value"] : List Str).length) : bindArgs (PySem.W.fnOf "is_integer" "is_integer" (defArgs s_is_integer) (defBody s_is_integer) (defScope s_is_integer) .none kV doc pm an cdv ct) ⟨us, []⟩ = pure ((["value"] : List Str).zip us) := match us, hl with | [_], _ => rfl
theorem bd_as_tuples (kV doc pm : Value) (an : Option Addr) (cdv ct : Value) (us : List Value) (hl : us.length = (["value"] : List Str).length) : bindArgs (PySem.W.fnOf "as_tuples" "as_tuples" (defArgs s_as_tuples) (defBody s_as_tuples) (defScope s_as_tuples) .none kV doc pm an cdv ct) ⟨us, []⟩ = pure ((["value"] : List Str).zip us) := match us, hl with | [_], _ => rfl
theorem bd_is_between (kV doc pm : Value) (an : Option Addr) (cdv ct : Value) (us : List Value) (hl : us.length = (["value", "low", "high"] : List Str).length) : bindArgs (PySem.W.fnOf "is_between" "is_between" (defArgs s_is_between) (defBody s_is_between) (defScope s_is_between) .none kV doc pm an cdv ct) ⟨us, []⟩ = pure ((["value", "low", "high"] : List Str).zip us) := match us, hl with | [_, _, _], _ => rfl
theorem bd_need_figure (kV doc pm : Value) (an : Option Addr) (cdv ct : Value) (us : List Value) (hl : us.length = (["m"] : List Str).length) : bindArgs (PySem.W.fnOf "need_figure" "need_figure" (defArgs s_need_figure) (defBody s_need_figure) (defScope s_need_figure) .none kV doc pm an cdv ct) ⟨us, []⟩ = pure ((["m"] : List Str).zip us) := match us, hl with | [_], _ => rfl
theorem bd_need_between (kV doc pm : Value) (an : Option Addr) (cdv ct : Value) (us : List Value) (hl : us.length = (["what", "number", "low", "high"] : List Str).length) : bindArgs (PySem.W.fnOf "need_between" "need_between" (defArgs s_need_between) (defBody s_need_between) (defScope s_need_between) .none kV doc pm an cdv ct) ⟨us, []⟩ = pure ((["what", "number", "low", "high"] : List Str).zip us) := match us, hl with | [_, _, _, _], _ => rfl
theorem bd_morse_item (kV doc pm : Value) (an : Option Addr) (cdv ct : Value) (us : List Value) (hl : us.length = (["at"] : List Str).length) : bindArgs (PySem.W.fnOf "morse_item" "morse_item" (defArgs s_morse_item) (defBody s_morse_item) (defScope s_morse_item) .none kV doc pm an cdv ct) ⟨us, []⟩ = pure ((["at"] : List Str).zip us) := match us, hl with | [_], _ => rfl
theorem bd_Row_init (kV doc pm : Value) (an : Option Addr) (cdv ct : Value) (us : List Value) (hl : us.length = (["self", "ahead", "ring"] : List Str).length) : bindArgs (PySem.W.fnOf "__init__" "Row.__init__" (defArgs s_Row_init) (defBody s_Row_init) (defScope s_Row_init) .none kV doc pm an cdv ct) ⟨us, []⟩ = pure ((["self", "ahead", "ring"] : List Str).zip us) := match us, hl with | [_, _, _], _ => rfl
theorem bd_golden_by (kV doc pm : Value) (an : Option Addr) (cdv ct : Value) (us : List Value) (hl : us.length = (["m"] : List Str).length) : bindArgs (PySem.W.fnOf "golden_by" "golden_by" (defArgs s_golden_by) (defBody s_golden_by) (defScope s_golden_by) .none kV doc pm an cdv ct) ⟨us, []⟩ = pure ((["m"] : List Str).zip us) := match us, hl with | [_], _ => rfl
theorem bd_golden_row (kV doc pm : Value) (an : Option Addr) (cdv ct : Value) (us : List Value) (hl : us.length = (["m"] : List Str).length) : bindArgs (PySem.W.fnOf "golden_row" "golden_row" (defArgs s_golden_row) (defBody s_golden_row) (defScope s_golden_row) .none kV doc pm an cdv ct) ⟨us, []⟩ = pure ((["m"] : List Str).zip us) := match us, hl with | [_], _ => rfl
theorem bd_odd_ones (kV doc pm : Value) (an : Option Addr) (cdv ct : Value) (us : List Value) (hl : us.length = (["n"] : List Str).length) : bindArgs (PySem.W.fnOf "odd_ones" "odd_ones" (defArgs s_odd_ones) (defBody s_odd_ones) (defScope s_odd_ones) .none kV doc pm an cdv ct) ⟨us, []⟩ = pure ((["n"] : List Str).zip us) := match us, hl with | [_], _ => rfl
theorem bd_loreti_by (kV doc pm : Value) (an : Option Addr) (cdv ct : Value) (us : List Value) (hl : us.length = (["m", "i"] : List Str).length) : bindArgs (PySem.W.fnOf "loreti_by" "loreti_by" (defArgs s_loreti_by) (defBody s_loreti_by) (defScope s_loreti_by) .none kV doc pm an cdv ct) ⟨us, []⟩ = pure ((["m", "i"] : List Str).zip us) := match us, hl with | [_, _], _ => rfl
theorem bd_loreti_item (kV doc pm : Value) (an : Option Addr) (cdv ct : Value) (us : List Value) (hl : us.length = (["m", "i"] : List Str).length) : bindArgs (PySem.W.fnOf "loreti_item" "loreti_item" (defArgs s_loreti_item) (defBody s_loreti_item) (defScope s_loreti_item) .none kV doc pm an cdv ct) ⟨us, []⟩ = pure ((["m", "i"] : List Str).zip us) := match us, hl with | [_, _], _ => rfl
theorem bd_law_pen (kV doc pm : Value) (an : Option Addr) (cdv ct : Value) (us : List Value) (hl : us.length = (["script"] : List Str).length) : bindArgs (PySem.W.fnOf "_law_pen" "_law_pen" (defArgs s_law_pen) (defBody s_law_pen) (defScope s_law_pen) .none kV doc pm an cdv ct) ⟨us, []⟩ = pure ((["script"] : List Str).zip us) := match us, hl with | [_], _ => rfl
theorem bd_law_draw (kV doc pm : Value) (an : Option Addr) (cdv ct : Value) (us : List Value) (hl : us.length = (["pen", "many"] : List Str).length) : bindArgs (PySem.W.fnOf "_law_draw" "_law_draw" (defArgs s_law_draw) (defBody s_law_draw) (defScope s_law_draw) .none kV doc pm an cdv ct) ⟨us, []⟩ = pure ((["pen", "many"] : List Str).zip us) := match us, hl with | [_, _], _ => rfl
theorem bd_law_pick (kV doc pm : Value) (an : Option Addr) (cdv ct : Value) (us : List Value) (hl : us.length = (["pen", "some"] : List Str).length) : bindArgs (PySem.W.fnOf "_law_pick" "_law_pick" (defArgs s_law_pick) (defBody s_law_pick) (defScope s_law_pick) .none kV doc pm an cdv ct) ⟨us, []⟩ = pure ((["pen", "some"] : List Str).zip us) := match us, hl with | [_, _], _ => rfl
theorem bd_law_is (kV doc pm : Value) (an : Option Addr) (cdv ct : Value) (us : List Value) (hl : us.length = (["told", "due"] : List Str).length) : bindArgs (PySem.W.fnOf "_law_is" "_law_is" (defArgs s_law_is) (defBody s_law_is) (defScope s_law_is) .none kV doc pm an cdv ct) ⟨us, []⟩ = pure ((["told", "due"] : List Str).zip us) := match us, hl with | [_, _], _ => rfl
theorem bd_law_wide (kV doc pm : Value) (an : Option Addr) (cdv ct : Value) (us : List Value) (hl : us.length = (["pen", "figures"] : List Str).length) : bindArgs (PySem.W.fnOf "_law_wide" "_law_wide" (defArgs s_law_wide) (defBody s_law_wide) (defScope s_law_wide) .none kV doc pm an cdv ct) ⟨us, []⟩ = pure ((["pen", "figures"] : List Str).zip us) := match us, hl with | [_, _], _ => rfl
theorem bd_law_fault (kV doc pm : Value) (an : Option Addr) (cdv ct : Value) (us : List Value) (hl : us.length = (["call"] : List Str).length) : bindArgs (PySem.W.fnOf "_law_fault" "_law_fault" (defArgs s_law_fault) (defBody s_law_fault) (defScope s_law_fault) .none kV doc pm an cdv ct) ⟨us, []⟩ = pure ((["call"] : List Str).zip us) := match us, hl with | [_], _ => rfl
theorem bd_law_kinds (kV doc pm : Value) (an : Option Addr) (cdv ct : Value) (us : List Value) (hl : us.length = (["e"] : List Str).length) : bindArgs (PySem.W.fnOf "_law_kinds" "_law_kinds" (defArgs s_law_kinds) (defBody s_law_kinds) (defScope s_law_kinds) .none kV doc pm an cdv ct) ⟨us, []⟩ = pure ((["e"] : List Str).zip us) := match us, hl with | [_], _ => rfl
theorem bd_law_more_kinds (kV doc pm : Value) (an : Option Addr) (cdv ct : Value) (us : List Value) (hl : us.length = (["e"] : List Str).length) : bindArgs (PySem.W.fnOf "_law_more_kinds" "_law_more_kinds" (defArgs s_law_more_kinds) (defBody s_law_more_kinds) (defScope s_law_more_kinds) .none kV doc pm an cdv ct) ⟨us, []⟩ = pure ((["e"] : List Str).zip us) := match us, hl with | [_], _ => rfl
theorem bd_law_aw_morse (kV doc pm : Value) (an : Option Addr) (cdv ct : Value) (us : List Value) (hl : us.length = (["at"] : List Str).length) : bindArgs (PySem.W.fnOf "_law_aw_morse" "_law_aw_morse" (defArgs s_law_aw_morse) (defBody s_law_aw_morse) (defScope s_law_aw_morse) .none kV doc pm an cdv ct) ⟨us, []⟩ = pure ((["at"] : List Str).zip us) := match us, hl with | [_], _ => rfl
theorem bd_law_aw_loreti (kV doc pm : Value) (an : Option Addr) (cdv ct : Value) (us : List Value) (hl : us.length = (["m", "at"] : List Str).length) : bindArgs (PySem.W.fnOf "_law_aw_loreti" "_law_aw_loreti" (defArgs s_law_aw_loreti) (defBody s_law_aw_loreti) (defScope s_law_aw_loreti) .none kV doc pm an cdv ct) ⟨us, []⟩ = pure ((["m", "at"] : List Str).zip us) := match us, hl with | [_, _], _ => rfl
theorem bd_law_morse_fault (kV doc pm : Value) (an : Option Addr) (cdv ct : Value) (us : List Value) (hl : us.length = (["at"] : List Str).length) : bindArgs (PySem.W.fnOf "_law_morse_fault" "_law_morse_fault" (defArgs s_law_morse_fault) (defBody s_law_morse_fault) (defScope s_law_morse_fault) .none kV doc pm an cdv ct) ⟨us, []⟩ = pure ((["at"] : List Str).zip us) := match us, hl with | [_], _ => rfl
theorem bd_law_right (kV doc pm : Value) (an : Option Addr) (cdv ct : Value) (us : List Value) (hl : us.length = (["pen"] : List Str).length) : bindArgs (PySem.W.fnOf "_law_right" "_law_right" (defArgs s_law_right) (defBody s_law_right) (defScope s_law_right) .none kV doc pm an cdv ct) ⟨us, []⟩ = pure ((["pen"] : List Str).zip us) := match us, hl with | [_], _ => rfl
theorem bd_law_row_right (kV doc pm : Value) (an : Option Addr) (cdv ct : Value) (us : List Value) (hl : us.length = (["m"] : List Str).length) : bindArgs (PySem.W.fnOf "_law_row_right" "_law_row_right" (defArgs s_law_row_right) (defBody s_law_row_right) (defScope s_law_row_right) .none kV doc pm an cdv ct) ⟨us, []⟩ = pure ((["m"] : List Str).zip us) := match us, hl with | [_], _ => rfl
theorem bd_law (kV doc pm : Value) (an : Option Addr) (cdv ct : Value) (us : List Value) (hl : us.length = (["script"] : List Str).length) : bindArgs (PySem.W.fnOf "law" "law" (defArgs s_law) (defBody s_law) (defScope s_law) .none kV doc pm an cdv ct) ⟨us, []⟩ = pure ((["script"] : List Str).zip us) := match us, hl with | [_], _ => rfl
end K91
set_option Elab.async false
set_option linter.all false
set_option maxRecDepth 100000
set_option maxHeartbeats 4000000
namespace K91
open PySem PySem.Spec PyProof.Rows L2 Evl G7

def d_BadNumber_init : He.DefD := ⟨("BadNumber", some "__init__"), "__init__", "BadNumber.__init__", defArgs s_BadNumber_init, defBody s_BadNumber_init, defScope s_BadNumber_init, [], []⟩
def d_is_integer : He.DefD := ⟨("is_integer", none), "is_integer", "is_integer", defArgs s_is_integer, defBody s_is_integer, defScope s_is_integer, [], []⟩
def d_as_tuples : He.DefD := ⟨("as_tuples", none), "as_tuples", "as_tuples", defArgs s_as_tuples, defBody s_as_tuples, defScope s_as_tuples, [], []⟩
def d_is_between : He.DefD := ⟨("is_between", none), "is_between", "is_between", defArgs s_is_between, defBody s_is_between, defScope s_is_between, [], []⟩
def d_need_figure : He.DefD := ⟨("need_figure", none), "need_figure", "need_figure", defArgs s_need_figure, defBody s_need_figure, defScope s_need_figure, [], []⟩
def d_need_between : He.DefD := ⟨("need_between", none), "need_between", "need_between", defArgs s_need_between, defBody s_need_between, defScope s_need_between, [], []⟩
def d_morse_item : He.DefD := ⟨("morse_item", none), "morse_item", "morse_item", defArgs s_morse_item, defBody s_morse_item, defScope s_morse_item, [], []⟩
def d_Row_init : He.DefD := ⟨("Row", some "__init__"), "__init__", "Row.__init__", defArgs s_Row_init, defBody s_Row_init, defScope s_Row_init, [], []⟩
def d_golden_by : He.DefD := ⟨("golden_by", none), "golden_by", "golden_by", defArgs s_golden_by, defBody s_golden_by, defScope s_golden_by, [], []⟩
def d_golden_row : He.DefD := ⟨("golden_row", none), "golden_row", "golden_row", defArgs s_golden_row, defBody s_golden_row, defScope s_golden_row, [], []⟩
def d_odd_ones : He.DefD := ⟨("odd_ones", none), "odd_ones", "odd_ones", defArgs s_odd_ones, defBody s_odd_ones, defScope s_odd_ones, [], []⟩
def d_loreti_by : He.DefD := ⟨("loreti_by", none), "loreti_by", "loreti_by", defArgs s_loreti_by, defBody s_loreti_by, defScope s_loreti_by, [], []⟩
def d_loreti_item : He.DefD := ⟨("loreti_item", none), "loreti_item", "loreti_item", defArgs s_loreti_item, defBody s_loreti_item, defScope s_loreti_item, [], []⟩
def d_law_pen : He.DefD := ⟨("_law_pen", none), "_law_pen", "_law_pen", defArgs s_law_pen, defBody s_law_pen, defScope s_law_pen, [], []⟩
def d_law_draw : He.DefD := ⟨("_law_draw", none), "_law_draw", "_law_draw", defArgs s_law_draw, defBody s_law_draw, defScope s_law_draw, [], []⟩
def d_law_pick : He.DefD := ⟨("_law_pick", none), "_law_pick", "_law_pick", defArgs s_law_pick, defBody s_law_pick, defScope s_law_pick, [], []⟩
def d_law_is : He.DefD := ⟨("_law_is", none), "_law_is", "_law_is", defArgs s_law_is, defBody s_law_is, defScope s_law_is, [], []⟩
def d_law_wide : He.DefD := ⟨("_law_wide", none), "_law_wide", "_law_wide", defArgs s_law_wide, defBody s_law_wide, defScope s_law_wide, [], []⟩
def d_law_fault : He.DefD := ⟨("_law_fault", none), "_law_fault", "_law_fault", defArgs s_law_fault, defBody s_law_fault, defScope s_law_fault, [], []⟩
def d_law_kinds : He.DefD := ⟨("_law_kinds", none), "_law_kinds", "_law_kinds", defArgs s_law_kinds, defBody s_law_kinds, defScope s_law_kinds, [], []⟩
def d_law_more_kinds : He.DefD := ⟨("_law_more_kinds", none), "_law_more_kinds", "_law_more_kinds", defArgs s_law_more_kinds, defBody s_law_more_kinds, defScope s_law_more_kinds, [], []⟩
def d_law_aw_morse : He.DefD := ⟨("_law_aw_morse", none), "_law_aw_morse", "_law_aw_morse", defArgs s_law_aw_morse, defBody s_law_aw_morse, defScope s_law_aw_morse, [], []⟩
def d_law_aw_loreti : He.DefD := ⟨("_law_aw_loreti", none), "_law_aw_loreti", "_law_aw_loreti", defArgs s_law_aw_loreti, defBody s_law_aw_loreti, defScope s_law_aw_loreti, [], []⟩
def d_law_morse_fault : He.DefD := ⟨("_law_morse_fault", none), "_law_morse_fault", "_law_morse_fault", defArgs s_law_morse_fault, defBody s_law_morse_fault, defScope s_law_morse_fault, [], []⟩
def d_law_right : He.DefD := ⟨("_law_right", none), "_law_right", "_law_right", defArgs s_law_right, defBody s_law_right, defScope s_law_right, [], []⟩
def d_law_row_right : He.DefD := ⟨("_law_row_right", none), "_law_row_right", "_law_row_right", defArgs s_law_row_right, defBody s_law_row_right, defScope s_law_row_right, [], []⟩
def d_law : He.DefD := ⟨("law", none), "law", "law", defArgs s_law, defBody s_law, defScope s_law, [], []⟩
def fn : List He.DefD := [d_BadNumber_init, d_is_integer, d_as_tuples, d_is_between, d_need_figure, d_need_between, d_morse_item, d_Row_init, d_golden_by, d_golden_row, d_odd_ones, d_loreti_by, d_loreti_item, d_law_pen, d_law_draw, d_law_pick, d_law_is, d_law_wide, d_law_fault, d_law_kinds, d_law_more_kinds, d_law_aw_morse, d_law_aw_loreti, d_law_morse_fault, d_law_right, d_law_row_right, d_law]
def fa0 : List He.Fa := [.glo "is_integer", .glo "as_tuples", .glo "is_between", .glo "need_figure", .glo "need_between", .glo "morse_item", .glo "golden_by", .glo "golden_row", .glo "odd_ones", .glo "loreti_by", .glo "loreti_item", .glo "_law_pen"]
def fa1 : List He.Fa := [.glo "_law_draw", .glo "_law_pick", .glo "_law_is", .glo "_law_wide", .glo "_law_fault", .glo "_law_kinds", .glo "_law_more_kinds", .glo "_law_aw_morse", .glo "_law_aw_loreti", .glo "_law_morse_fault", .glo "_law_right", .glo "_law_row_right"]
def fa2 : List He.Fa := [.glo "law", .glo "FigureError", .glo "BadNumber", .glo "BadRow", .glo "BadTable", .glo "BadBase", .glo "BadBook", .glo "BadName", .glo "BadText", .glo "NoPlace", .glo "NoName", .glo "TakenName"]
def fa3 : List He.Fa := [.glo "Unlike", .glo "NotThere", .glo "TooMany", .glo "NotKept", .glo "NothingToUndo", .glo "NothingToRedo", .glo "Row", .free "isinstance", .free "int", .free "bool", .free "list", .free "tuple"]
def fa4 : List He.Fa := [.free "len", .free "str", .free "range", .free "ValueError", .free "repr", .int "MOST_FIGURE" (20), .int "MOST_ITEM" (10 ^ 40), .int "MOST_INDEX" (10 ^ 9), .cls "Row", .mkr "Row", .noat "Row" "ahead", .noat "Row" "ring"]
def fa5 : List He.Fa := [.exm "BadNumber" "FigureError" true]
def fa : List He.Fa := fa0 ++ fa1 ++ fa2 ++ fa3 ++ fa4 ++ fa5
def cs1 : List (Str × Bool) := [("BadNumber", true), ("BadRow", false), ("BadTable", false), ("BadBase", false), ("BadBook", false), ("BadName", false), ("BadText", false), ("NoPlace", false)]
def cs2 : List (Str × Bool) := [("NoName", false), ("TakenName", false), ("Unlike", false), ("NotThere", false), ("TooMany", false), ("NotKept", false), ("NothingToUndo", false), ("NothingToRedo", false)]
def ex (K : PySem.W.Frag) : Bool := ownB K "BadNumber" ["what", "number"] && (kindB K "BadNumber" cs1 && kindB K "BadNumber" cs2)
def tf : List He.Defn := [("_law_morse_fault", none)]
def Tx (K : PySem.W.Frag) (mg : Str → Option Value) : Prop := ∃ (w : World) (h : Heap), K.In h ∧ h.Ns mainGlobals mg ∧ He.SaysX fa fn [] tf ex w h K
section
variable {K : PySem.W.Frag} {mg : Str → Option Value}
theorem Tx.fact (T : Tx K mg) (i : Nat) {f : He.Fa} (h : fa[i]? = some f := by rfl) : f.ok K = true := by
  obtain ⟨_, _, _, _, c⟩ := T
  exact c.t.d.fact i h
theorem Tx.glo (T : Tx K mg) {x : Str} (c : (He.Fa.glo x).ok K = true) : mg x = some (.ref (He.ga K x)) := by
  obtain ⟨_, _, X, G, _⟩ := T
  exact He.glo_ok X G c
theorem Tx.free (T : Tx K mg) {x : Str} (c : (He.Fa.free x).ok K = true) : mg x = none := by
  obtain ⟨_, _, X, G, _⟩ := T
  exact He.free_ok X G c
theorem Tx.int (T : Tx K mg) {x : Str} {i : Int} (c : (He.Fa.int x i).ok K = true) : ∃ t, mg x = some (.int i t) := by
  obtain ⟨_, _, X, G, _⟩ := T
  exact He.int_ok X G c
theorem Tx.str (T : Tx K mg) {x z : Str} (c : (He.Fa.str x z).ok K = true) : ∃ t, mg x = some (.str z t) := by
  obtain ⟨_, _, X, G, _⟩ := T
  exact He.str_ok X G c
theorem Tx.ex (T : Tx K mg) : ex K = true := by
  obtain ⟨_, _, _, _, c⟩ := T
  exact c.more
theorem Tx.def_ (T : Tx K mg) (i : Nat) {d : He.DefD} (h : fn[i]? = some d := by rfl) : ∃ fd, FunD K d.name d.qual d.params d.body d.scope (d.dvs K) (d.kws K) (He.fAd K d.at_) fd := by
  obtain ⟨_, _, _, _, c⟩ := T
  exact c.t.d.def_ i h
theorem Tx.g_is_integer (T : Tx K mg) : mg "is_integer" = some (.ref (He.ga K "is_integer")) := T.glo (T.fact 0)
theorem Tx.g_as_tuples (T : Tx K mg) : mg "as_tuples" = some (.ref (He.ga K "as_tuples")) := T.glo (T.fact 1)
theorem Tx.g_is_between (T : Tx K mg) : mg "is_between" = some (.ref (He.ga K "is_between")) := T.glo (T.fact 2)
theorem Tx.g_need_figure (T : Tx K mg) : mg "need_figure" = some (.ref (He.ga K "need_figure")) := T.glo (T.fact 3)
theorem Tx.g_need_between (T : Tx K mg) : mg "need_between" = some (.ref (He.ga K "need_between")) := T.glo (T.fact 4)
theorem Tx.g_morse_item (T : Tx K mg) : mg "morse_item" = some (.ref (He.ga K "morse_item")) := T.glo (T.fact 5)
theorem Tx.g_golden_by (T : Tx K mg) : mg "golden_by" = some (.ref (He.ga K "golden_by")) := T.glo (T.fact 6)
theorem Tx.g_golden_row (T : Tx K mg) : mg "golden_row" = some (.ref (He.ga K "golden_row")) := T.glo (T.fact 7)
theorem Tx.g_odd_ones (T : Tx K mg) : mg "odd_ones" = some (.ref (He.ga K "odd_ones")) := T.glo (T.fact 8)
theorem Tx.g_loreti_by (T : Tx K mg) : mg "loreti_by" = some (.ref (He.ga K "loreti_by")) := T.glo (T.fact 9)
theorem Tx.g_loreti_item (T : Tx K mg) : mg "loreti_item" = some (.ref (He.ga K "loreti_item")) := T.glo (T.fact 10)
theorem Tx.g_law_pen (T : Tx K mg) : mg "_law_pen" = some (.ref (He.ga K "_law_pen")) := T.glo (T.fact 11)
theorem Tx.g_law_draw (T : Tx K mg) : mg "_law_draw" = some (.ref (He.ga K "_law_draw")) := T.glo (T.fact 12)
theorem Tx.g_law_pick (T : Tx K mg) : mg "_law_pick" = some (.ref (He.ga K "_law_pick")) := T.glo (T.fact 13)
theorem Tx.g_law_is (T : Tx K mg) : mg "_law_is" = some (.ref (He.ga K "_law_is")) := T.glo (T.fact 14)
theorem Tx.g_law_wide (T : Tx K mg) : mg "_law_wide" = some (.ref (He.ga K "_law_wide")) := T.glo (T.fact 15)
theorem Tx.g_law_fault (T : Tx K mg) : mg "_law_fault" = some (.ref (He.ga K "_law_fault")) := T.glo (T.fact 16)
theorem Tx.g_law_kinds (T : Tx K mg) : mg "_law_kinds" = some (.ref (He.ga K "_law_kinds")) := T.glo (T.fact 17)
theorem Tx.g_law_more_kinds (T : Tx K mg) : mg "_law_more_kinds" = some (.ref (He.ga K "_law_more_kinds")) := T.glo (T.fact 18)
theorem Tx.g_law_aw_morse (T : Tx K mg) : mg "_law_aw_morse" = some (.ref (He.ga K "_law_aw_morse")) := T.glo (T.fact 19)
theorem Tx.g_law_aw_loreti (T : Tx K mg) : mg "_law_aw_loreti" = some (.ref (He.ga K "_law_aw_loreti")) := T.glo (T.fact 20)
theorem Tx.g_law_morse_fault (T : Tx K mg) : mg "_law_morse_fault" = some (.ref (He.ga K "_law_morse_fault")) := T.glo (T.fact 21)
theorem Tx.g_law_right (T : Tx K mg) : mg "_law_right" = some (.ref (He.ga K "_law_right")) := T.glo (T.fact 22)
theorem Tx.g_law_row_right (T : Tx K mg) : mg "_law_row_right" = some (.ref (He.ga K "_law_row_right")) := T.glo (T.fact 23)
theorem Tx.g_law (T : Tx K mg) : mg "law" = some (.ref (He.ga K "law")) := T.glo (T.fact 24)
theorem Tx.g_FigureError (T : Tx K mg) : mg "FigureError" = some (.ref (He.ga K "FigureError")) := T.glo (T.fact 25)
theorem Tx.g_BadNumber (T : Tx K mg) : mg "BadNumber" = some (.ref (He.ga K "BadNumber")) := T.glo (T.fact 26)
theorem Tx.g_BadRow (T : Tx K mg) : mg "BadRow" = some (.ref (He.ga K "BadRow")) := T.glo (T.fact 27)
theorem Tx.g_BadTable (T : Tx K mg) : mg "BadTable" = some (.ref (He.ga K "BadTable")) := T.glo (T.fact 28)
theorem Tx.g_BadBase (T : Tx K mg) : mg "BadBase" = some (.ref (He.ga K "BadBase")) := T.glo (T.fact 29)
theorem Tx.g_BadBook (T : Tx K mg) : mg "BadBook" = some (.ref (He.ga K "BadBook")) := T.glo (T.fact 30)
theorem Tx.g_BadName (T : Tx K mg) : mg "BadName" = some (.ref (He.ga K "BadName")) := T.glo (T.fact 31)
theorem Tx.g_BadText (T : Tx K mg) : mg "BadText" = some (.ref (He.ga K "BadText")) := T.glo (T.fact 32)
theorem Tx.g_NoPlace (T : Tx K mg) : mg "NoPlace" = some (.ref (He.ga K "NoPlace")) := T.glo (T.fact 33)
theorem Tx.g_NoName (T : Tx K mg) : mg "NoName" = some (.ref (He.ga K "NoName")) := T.glo (T.fact 34)
theorem Tx.g_TakenName (T : Tx K mg) : mg "TakenName" = some (.ref (He.ga K "TakenName")) := T.glo (T.fact 35)
theorem Tx.g_Unlike (T : Tx K mg) : mg "Unlike" = some (.ref (He.ga K "Unlike")) := T.glo (T.fact 36)
theorem Tx.g_NotThere (T : Tx K mg) : mg "NotThere" = some (.ref (He.ga K "NotThere")) := T.glo (T.fact 37)
theorem Tx.g_TooMany (T : Tx K mg) : mg "TooMany" = some (.ref (He.ga K "TooMany")) := T.glo (T.fact 38)
theorem Tx.g_NotKept (T : Tx K mg) : mg "NotKept" = some (.ref (He.ga K "NotKept")) := T.glo (T.fact 39)
theorem Tx.g_NothingToUndo (T : Tx K mg) : mg "NothingToUndo" = some (.ref (He.ga K "NothingToUndo")) := T.glo (T.fact 40)
theorem Tx.g_NothingToRedo (T : Tx K mg) : mg "NothingToRedo" = some (.ref (He.ga K "NothingToRedo")) := T.glo (T.fact 41)
theorem Tx.g_Row (T : Tx K mg) : mg "Row" = some (.ref (He.ga K "Row")) := T.glo (T.fact 42)
theorem Tx.n_isinstance (T : Tx K mg) : mg "isinstance" = none := T.free (T.fact 43)
theorem Tx.n_int (T : Tx K mg) : mg "int" = none := T.free (T.fact 44)
theorem Tx.n_bool (T : Tx K mg) : mg "bool" = none := T.free (T.fact 45)
theorem Tx.n_list (T : Tx K mg) : mg "list" = none := T.free (T.fact 46)
theorem Tx.n_tuple (T : Tx K mg) : mg "tuple" = none := T.free (T.fact 47)
theorem Tx.n_len (T : Tx K mg) : mg "len" = none := T.free (T.fact 48)
theorem Tx.n_str (T : Tx K mg) : mg "str" = none := T.free (T.fact 49)
theorem Tx.n_range (T : Tx K mg) : mg "range" = none := T.free (T.fact 50)
theorem Tx.n_ValueError (T : Tx K mg) : mg "ValueError" = none := T.free (T.fact 51)
theorem Tx.n_repr (T : Tx K mg) : mg "repr" = none := T.free (T.fact 52)
theorem Tx.i_MOST_FIGURE (T : Tx K mg) : ∃ t, mg "MOST_FIGURE" = some (.int (20) t) := T.int (T.fact 53)
theorem Tx.i_MOST_ITEM (T : Tx K mg) : ∃ t, mg "MOST_ITEM" = some (.int (10 ^ 40) t) := T.int (T.fact 54)
theorem Tx.i_MOST_INDEX (T : Tx K mg) : ∃ t, mg "MOST_INDEX" = some (.int (10 ^ 9) t) := T.int (T.fact 55)
theorem Tx.f_BadNumber_init (T : Tx K mg) : ∃ fd, FunD K "__init__" "BadNumber.__init__" (defArgs s_BadNumber_init) (defBody s_BadNumber_init) (defScope s_BadNumber_init) [] [] (He.ma K (He.ga K "BadNumber") "__init__") fd := T.def_ 0
theorem Tx.f_is_integer (T : Tx K mg) : ∃ fd, FunD K "is_integer" "is_integer" (defArgs s_is_integer) (defBody s_is_integer) (defScope s_is_integer) [] [] (He.ga K "is_integer") fd := T.def_ 1
theorem Tx.f_as_tuples (T : Tx K mg) : ∃ fd, FunD K "as_tuples" "as_tuples" (defArgs s_as_tuples) (defBody s_as_tuples) (defScope s_as_tuples) [] [] (He.ga K "as_tuples") fd := T.def_ 2
theorem Tx.f_is_between (T : Tx K mg) : ∃ fd, FunD K "is_between" "is_between" (defArgs s_is_between) (defBody s_is_between) (defScope s_is_between) [] [] (He.ga K "is_between") fd := T.def_ 3
theorem Tx.f_need_figure (T : Tx K mg) : ∃ fd, FunD K "need_figure" "need_figure" (defArgs s_need_figure) (defBody s_need_figure) (defScope s_need_figure) [] [] (He.ga K "need_figure") fd := T.def_ 4
theorem Tx.f_need_between (T : Tx K mg) : ∃ fd, FunD K "need_between" "need_between" (defArgs s_need_between) (defBody s_need_between) (defScope s_need_between) [] [] (He.ga K "need_between") fd := T.def_ 5
theorem Tx.f_morse_item (T : Tx K mg) : ∃ fd, FunD K "morse_item" "morse_item" (defArgs s_morse_item) (defBody s_morse_item) (defScope s_morse_item) [] [] (He.ga K "morse_item") fd := T.def_ 6
theorem Tx.f_Row_init (T : Tx K mg) : ∃ fd, FunD K "__init__" "Row.__init__" (defArgs s_Row_init) (defBody s_Row_init) (defScope s_Row_init) [] [] (He.ma K (He.ga K "Row") "__init__") fd := T.def_ 7
theorem Tx.f_golden_by (T : Tx K mg) : ∃ fd, FunD K "golden_by" "golden_by" (defArgs s_golden_by) (defBody s_golden_by) (defScope s_golden_by) [] [] (He.ga K "golden_by") fd := T.def_ 8
theorem Tx.f_golden_row (T : Tx K mg) : ∃ fd, FunD K "golden_row" "golden_row" (defArgs s_golden_row) (defBody s_golden_row) (defScope s_golden_row) [] [] (He.ga K "golden_row") fd := T.def_ 9
theorem Tx.f_odd_ones (T : Tx K mg) : ∃ fd, FunD K "odd_ones" "odd_ones" (defArgs s_odd_ones) (defBody s_odd_ones) (defScope s_odd_ones) [] [] (He.ga K "odd_ones") fd := T.def_ 10
theorem Tx.f_loreti_by (T : Tx K mg) : ∃ fd, FunD K "loreti_by" "loreti_by" (defArgs s_loreti_by) (defBody s_loreti_by) (defScope s_loreti_by) [] [] (He.ga K "loreti_by") fd := T.def_ 11
theorem Tx.f_loreti_item (T : Tx K mg) : ∃ fd, FunD K "loreti_item" "loreti_item" (defArgs s_loreti_item) (defBody s_loreti_item) (defScope s_loreti_item) [] [] (He.ga K "loreti_item") fd := T.def_ 12
theorem Tx.f_law_pen (T : Tx K mg) : ∃ fd, FunD K "_law_pen" "_law_pen" (defArgs s_law_pen) (defBody s_law_pen) (defScope s_law_pen) [] [] (He.ga K "_law_pen") fd := T.def_ 13
theorem Tx.f_law_draw (T : Tx K mg) : ∃ fd, FunD K "_law_draw" "_law_draw" (defArgs s_law_draw) (defBody s_law_draw) (defScope s_law_draw) [] [] (He.ga K "_law_draw") fd := T.def_ 14
theorem Tx.f_law_pick (T : Tx K mg) : ∃ fd, FunD K "_law_pick" "_law_pick" (defArgs s_law_pick) (defBody s_law_pick) (defScope s_law_pick) [] [] (He.ga K "_law_pick") fd := T.def_ 15
theorem Tx.f_law_is (T : Tx K mg) : ∃ fd, FunD K "_law_is" "_law_is" (defArgs s_law_is) (defBody s_law_is) (defScope s_law_is) [] [] (He.ga K "_law_is") fd := T.def_ 16
theorem Tx.f_law_wide (T : Tx K mg) : ∃ fd, FunD K "_law_wide" "_law_wide" (defArgs s_law_wide) (defBody s_law_wide) (defScope s_law_wide) [] [] (He.ga K "_law_wide") fd := T.def_ 17
theorem Tx.f_law_fault (T : Tx K mg) : ∃ fd, FunD K "_law_fault" "_law_fault" (defArgs s_law_fault) (defBody s_law_fault) (defScope s_law_fault) [] [] (He.ga K "_law_fault") fd := T.def_ 18
theorem Tx.f_law_kinds (T : Tx K mg) : ∃ fd, FunD K "_law_kinds" "_law_kinds" (defArgs s_law_kinds) (defBody s_law_kinds) (defScope s_law_kinds) [] [] (He.ga K "_law_kinds") fd := T.def_ 19
theorem Tx.f_law_more_kinds (T : Tx K mg) : ∃ fd, FunD K "_law_more_kinds" "_law_more_kinds" (defArgs s_law_more_kinds) (defBody s_law_more_kinds) (defScope s_law_more_kinds) [] [] (He.ga K "_law_more_kinds") fd := T.def_ 20
theorem Tx.f_law_aw_morse (T : Tx K mg) : ∃ fd, FunD K "_law_aw_morse" "_law_aw_morse" (defArgs s_law_aw_morse) (defBody s_law_aw_morse) (defScope s_law_aw_morse) [] [] (He.ga K "_law_aw_morse") fd := T.def_ 21
theorem Tx.f_law_aw_loreti (T : Tx K mg) : ∃ fd, FunD K "_law_aw_loreti" "_law_aw_loreti" (defArgs s_law_aw_loreti) (defBody s_law_aw_loreti) (defScope s_law_aw_loreti) [] [] (He.ga K "_law_aw_loreti") fd := T.def_ 22
theorem Tx.f_law_morse_fault (T : Tx K mg) : ∃ fd, FunD K "_law_morse_fault" "_law_morse_fault" (defArgs s_law_morse_fault) (defBody s_law_morse_fault) (defScope s_law_morse_fault) [] [] (He.ga K "_law_morse_fault") fd := T.def_ 23
theorem Tx.f_law_right (T : Tx K mg) : ∃ fd, FunD K "_law_right" "_law_right" (defArgs s_law_right) (defBody s_law_right) (defScope s_law_right) [] [] (He.ga K "_law_right") fd := T.def_ 24
theorem Tx.f_law_row_right (T : Tx K mg) : ∃ fd, FunD K "_law_row_right" "_law_row_right" (defArgs s_law_row_right) (defBody s_law_row_right) (defScope s_law_row_right) [] [] (He.ga K "_law_row_right") fd := T.def_ 25
theorem Tx.f_law (T : Tx K mg) : ∃ fd, FunD K "law" "law" (defArgs s_law) (defBody s_law) (defScope s_law) [] [] (He.ga K "law") fd := T.def_ 26
end
-- more facts begin at 56
theorem more_at : fa.length = 61 := by decide
end K91
set_option Elab.async false
set_option linter.all false
set_option maxRecDepth 100000
set_option maxHeartbeats 0
namespace K91
open PySem PySem.Spec PyProof.Rows L2 Evl G7

def names0 : List Str := ["FigureError", "BadNumber", "BadRow", "BadTable", "BadBase", "BadBook", "BadName", "BadText", "NoPlace", "NoName", "TakenName", "Unlike"]
def names1 : List Str := ["NotThere", "TooMany", "NotKept", "NothingToUndo", "NothingToRedo", "is_integer", "as_tuples", "is_between", "MOST_FIGURE", "need_figure", "MOST_ITEM", "need_between"]
def names2 : List Str := ["morse_item", "Row", "MOST_INDEX", "golden_by", "golden_row", "odd_ones", "loreti_by", "loreti_item", "_law_pen", "_law_draw", "_law_pick", "_law_is"]
def names3 : List Str := ["_law_wide", "_law_fault", "_law_kinds", "_law_more_kinds", "_law_aw_morse", "_law_aw_loreti", "_law_morse_fault", "_law_right", "_law_row_right"]
def names : List Str := names0 ++ names1 ++ names2 ++ names3
abbrev R : PySem.W.OpenRow := PySem.W.OpenLaw.row PySem.Challenge.rw_allwritings_k91_whole_morse_and_loreti
abbrev hk : PySem.W.Hook := He.hookX 5 fa fn [] tf ex
def ob (s : PySem.W.SharedT) : He.AlX := He.obsX 5 fa fn [] tf ex (HandSHeadRun.getT s)
theorem ob_eq (s : PySem.W.SharedT) : ob s = hk.obs s.abs := He.obsX_eq (HandSHeadRun.getT_eq s)
theorem run (w : World) : HandSHeadRun.RunEq R (PySem.W.view R.prog [53]) hk ob 6000 names w := by
  intro os
  kernel_rfl
end K91
set_option linter.all false
namespace K91
/-! Thue and Morse's row: the parity of a number's figures to base 2 -/
def tmF : Nat → Nat → Nat
  | 0, _ => 0
  | f + 1, n => (n % 2 + tmF f (n / 2)) % 2
theorem tmF_lt : ∀ f n, tmF f n < 2
  | 0, _ => by simp [tmF]
  | f + 1, n => by rw [tmF]; omega
theorem tmF_more : ∀ f n, n < 2 ^ f → tmF (f + 1) n = tmF f n
  | 0, n, h => by
    have e : n = 0 := by omega
    subst e
    rfl
  | f + 1, n, h => by
    have h2 : n / 2 < 2 ^ f := by rw [Nat.pow_succ] at h; omega
    rw [tmF, tmF_more f _ h2]
    rfl
def mz (n : Int) : Int := (tmF 200 n.toNat : Nat)
theorem mz_zero : mz 0 = 0 := by decide +kernel
theorem mz_01 (n : Int) : mz n = 0 ∨ mz n = 1 := by
  have h := tmF_lt 200 n.toNat
  unfold mz
  omega
theorem mz_step {n : Int} (h0 : 0 ≤ n) (h : n < 2 ^ 200) : mz n = (n % 2 + mz (n / 2)) % 2 := by
  have h1 : n.toNat < 2 ^ 200 := by
    have e : ((2 ^ 200 : Nat) : Int) = (2 : Int) ^ 200 := by decide
    omega
  have e1 := tmF_more 200 n.toNat h1
  have e2 : (n / 2).toNat = n.toNat / 2 := by omega
  have e3 : tmF 201 n.toNat = (n.toNat % 2 + tmF 200 (n.toNat / 2)) % 2 := rfl
  unfold mz
  rw [← e1, e2, e3]
  omega
theorem mz_half {n : Int} (h0 : 0 ≤ n) (h : n < 2 ^ 200) : mz (n / 2) = if n % 2 = 0 then mz n else 1 - mz n := by
  have h1 := mz_step h0 h
  have h2 := mz_01 (n / 2)
  have h3 := mz_01 n
  split <;> omega
/-- no word three times over -/
theorem mz_double {n : Int} (h0 : 0 ≤ n) (h : n < 2 ^ 199) : mz (2 * n) = mz n ∧ mz (2 * n + 1) = 1 - mz n := by
  have e : (2 : Int) ^ 200 = 2 * 2 ^ 199 := by decide
  have a := mz_step (n := 2 * n) (by omega) (by omega)
  have b := mz_step (n := 2 * n + 1) (by omega) (by omega)
  have c := mz_01 n
  have d := mz_01 (2 * n)
  have d' := mz_01 (2 * n + 1)
  have e1 : (2 * n) / 2 = n := by omega
  have e2 : (2 * n + 1) / 2 = n := by omega
  rw [e1] at a
  rw [e2] at b
  omega
end K91
set_option linter.all false
set_option maxRecDepth 100000
set_option maxHeartbeats 400000
namespace K91
/-! no word of Thue and Morse's row stands three times side by side (words of up to seven items) -/
def pb (b : Nat) : Nat := b % 2 + b / 2 % 2 + b / 4 % 2 + b / 8 % 2 + b / 16 % 2
theorem five {a0 a1 a2 a3 a4 a5 b0 b1 b2 b3 b4 : Nat} (h0 : a0 = (b0 + a1) % 2) (h1 : a1 = (b1 + a2) % 2) (h2 : a2 = (b2 + a3) % 2) (h3 : a3 = (b3 + a4) % 2) (h4 : a4 = (b4 + a5) % 2) : a0 = (b0 + b1 + b2 + b3 + b4 + a5) % 2 := by
  have g3 : a3 = (b3 + b4 + a5) % 2 := by omega
  have g2 : a2 = (b2 + b3 + b4 + a5) % 2 := by clear h0 h1 h3 h4; omega
  have g1 : a1 = (b1 + b2 + b3 + b4 + a5) % 2 := by clear h0 h2 h3 h4 g3; omega
  clear h1 h2 h3 h4 g2 g3
  omega
theorem pb_is (n : Nat) : pb (n % 32) = n % 2 + n / 2 % 2 + n / 2 / 2 % 2 + n / 2 / 2 / 2 % 2 + n / 2 / 2 / 2 / 2 % 2 := by
  have e1 : n % 32 % 2 = n % 2 := by omega
  have e2 : n % 32 / 2 % 2 = n / 2 % 2 := by omega
  have e3 : n % 32 / 4 % 2 = n / 2 / 2 % 2 := by omega
  have e4 : n % 32 / 8 % 2 = n / 2 / 2 / 2 % 2 := by omega
  have e5 : n % 32 / 16 % 2 = n / 2 / 2 / 2 / 2 % 2 := by omega
  unfold pb
  rw [e1, e2, e3, e4, e5]
theorem tm_five (n : Nat) (h : n < 2 ^ 195) : tmF 200 n = (pb (n % 32) + tmF 200 (n / 32)) % 2 := by
  have hm : ∀ f m, m < 2 ^ 195 → tmF (200 + f) m = tmF 200 m := fun f m hm => by
    induction f with
    | zero => rfl
    | succ f ih =>
      have hlt : m < 2 ^ (200 + f) := Nat.lt_of_lt_of_le hm (Nat.pow_le_pow_right (by decide) (by omega))
      exact (tmF_more (200 + f) m hlt).trans ih
  have e : n / 32 = n / 2 / 2 / 2 / 2 / 2 := by omega
  rw [pb_is, e, ← hm 5 n h]
  exact five (a1 := tmF 204 (n / 2)) (a2 := tmF 203 (n / 2 / 2)) (a3 := tmF 202 (n / 2 / 2 / 2)) (a4 := tmF 201 (n / 2 / 2 / 2 / 2)) rfl rfl rfl rfl rfl
theorem mz_five {n : Int} (h0 : 0 ≤ n) (h : n < 2 ^ 190) : mz n = ((pb (n.toNat % 32) : Nat) + mz (n / 32)) % 2 := by
  have h1 : n.toNat < 2 ^ 195 := by
    have z : (2 : Int) ^ 190 < ((2 ^ 195 : Nat) : Int) := by decide
    generalize (2 : Int) ^ 190 = c at h z
    generalize 2 ^ 195 = c2 at z ⊢
    omega
  have e := tm_five n.toNat h1
  have e2 : (n / 32).toNat = n.toNat / 32 := by omega
  unfold mz
  rw [e2, e]
  clear h h1 e e2
  omega
/-- a stretch of two blocks of 32 -/
def wi (a b i : Nat) : Nat := (pb (i % 32) + if i < 32 then a else b) % 2
theorem wi_is {s : Int} (h0 : 0 ≤ s) (h : s < 1000000000) {k : Nat} (hk : k < 32) : mz (s + (k : Int)) = (wi (mz (s / 32)).toNat (mz (s / 32 + 1)).toNat (s.toNat % 32 + k) : Nat) := by
  have hb : (2000000000 : Int) < 2 ^ 190 := by decide
  have m1 := mz_01 (s / 32)
  have m2 := mz_01 (s / 32 + 1)
  have hlt : s + (k : Int) < 2 ^ 190 := Int.lt_trans (by omega) hb
  have f := mz_five (n := s + (k : Int)) (by omega) hlt
  rw [f]
  have e1 : (s + (k : Int)).toNat % 32 = (s.toNat % 32 + k) % 32 := by omega
  rw [e1]
  clear f hlt hb
  unfold wi
  by_cases c : s.toNat % 32 + k < 32
  · rw [if_pos c]
    have e2 : (s + (k : Int)) / 32 = s / 32 := by omega
    rw [e2]
    omega
  · rw [if_neg c]
    have e2 : (s + (k : Int)) / 32 = s / 32 + 1 := by omega
    rw [e2]
    omega
def noCube : Bool := (List.range 2).all fun a => (List.range 2).all fun b => (List.range 32).all fun r => (List.range 7).all fun l => (List.range (2 * (l + 1))).any fun k => wi a b (r + k) != wi a b (r + k + (l + 1))
theorem noCube_ok : noCube = true := by decide +kernel
theorem no_cube {s L : Int} (h0 : 0 ≤ s) (h : s < 1000000000) (h1 : 1 ≤ L) (h7 : L ≤ 7) : ∃ k : Nat, (k : Int) < 2 * L ∧ mz (s + (k : Int)) ≠ mz (s + ((k : Int) + L)) := by
  obtain ⟨l, rfl⟩ : ∃ l : Nat, L = (l : Int) + 1 := ⟨(L - 1).toNat, by omega⟩
  have m1 := mz_01 (s / 32)
  have m2 := mz_01 (s / 32 + 1)
  have c := noCube_ok
  unfold noCube at c
  have c1 := List.all_eq_true.mp c (mz (s / 32)).toNat (List.mem_range.mpr (by omega))
  have c2 := List.all_eq_true.mp c1 (mz (s / 32 + 1)).toNat (List.mem_range.mpr (by omega))
  have c3 := List.all_eq_true.mp c2 (s.toNat % 32) (List.mem_range.mpr (by omega))
  have c4 := List.all_eq_true.mp c3 l (List.mem_range.mpr (by omega))
  obtain ⟨k, hk, hne⟩ := List.any_eq_true.mp c4
  have hk' := List.mem_range.mp hk
  refine ⟨k, by omega, fun z => ?_⟩
  have w1 := wi_is h0 h (k := k) (by omega)
  have w2 := wi_is h0 h (k := k + (l + 1)) (by omega)
  have e : s + ((k + (l + 1) : Nat) : Int) = s + ((k : Int) + ((l : Int) + 1)) := by omega
  rw [e, ← z, w1] at w2
  have e3 : s.toNat % 32 + (k + (l + 1)) = s.toNat % 32 + k + (l + 1) := by omega
  rw [e3] at w2
  have w3 : wi (mz (s / 32)).toNat (mz (s / 32 + 1)).toNat (s.toNat % 32 + k) = wi (mz (s / 32)).toNat (mz (s / 32 + 1)).toNat (s.toNat % 32 + k + (l + 1)) := by omega
  rw [w3] at hne
  simp at hne
/-- three times the first third is not the whole -/
theorem thrice {s L : Int} (h0 : 0 ≤ s) (h : s < 1000000000) (h1 : 1 ≤ L) (h7 : L ≤ 7) :
    (List.replicate 3 (((List.range (3 * L).toNat).map fun k : Nat => mz (s + (k : Int))).take L.toNat)).flatten ≠ (List.range (3 * L).toNat).map fun k : Nat => mz (s + (k : Int)) := by
  intro z
  obtain ⟨l, hl⟩ : ∃ l : Nat, L = (l : Int) := ⟨L.toNat, by omega⟩
  subst hl
  obtain ⟨k, hk, hne⟩ := no_cube h0 h h1 h7
  have e3 : (3 * (l : Int)).toNat = 3 * l := by omega
  have e1 : (l : Int).toNat = l := by omega
  rw [e3, e1] at z
  have len : (((List.range (3 * l)).map fun k : Nat => mz (s + (k : Int))).take l).length = l := by
    rw [List.length_take, List.length_map, List.length_range]
    omega
  obtain ⟨xs, hxs⟩ : ∃ xs, xs = ((List.range (3 * l)).map fun k : Nat => mz (s + (k : Int))).take l := ⟨_, rfl⟩
  rw [← hxs] at z len
  have f : (List.replicate 3 xs).flatten = xs ++ (xs ++ xs) := by simp [List.replicate]
  rw [f] at z
  have get : ∀ i, i < 3 * l → (xs ++ (xs ++ xs))[i]? = some (mz (s + (i : Int))) := fun i hi => by
    rw [z, List.getElem?_map, List.getElem?_range hi]
    rfl
  have per : ∀ i, i < 2 * l → (xs ++ (xs ++ xs))[i]? = (xs ++ (xs ++ xs))[i + l]? := fun i hi => by
    by_cases c : i < l
    · rw [List.getElem?_append_left (by omega), List.getElem?_append_right (by omega), List.getElem?_append_left (by omega), len]
      congr 1
      omega
    · rw [List.getElem?_append_right (by omega), List.getElem?_append_left (by omega), List.getElem?_append_right (by omega), List.getElem?_append_right (by omega), len]
      congr 1
      omega
  have p := per k (by omega)
  rw [get k (by omega), get (k + l) (by omega)] at p
  have q := Option.some.inj p
  have e : s + ((k + l : Nat) : Int) = s + ((k : Int) + (l : Int)) := by omega
  rw [e] at q
  exact hne q
end K91
set_option Elab.async false
set_option linter.all false
set_option maxRecDepth 100000
set_option maxHeartbeats 4000000
namespace K91
open PySem PySem.Spec PyProof.Rows L2 Evl G7
section
variable {P : Program} {w : World} {K : PySem.W.Frag} {mg : Str → Option Value} {base : Heap}
/-- is_integer(v): by the type's name -/
def IsI (K : PySem.W.Frag) (H : Hp) (v : V) (z : Bool) : Prop := ∃ (t : String) (b c : Bool), TyX K H v (.type t) ∧ kitB t "int" = some b ∧ kitB t "bool" = some c ∧ z = (b && !c)
theorem IsI.ex {H H' : Hp} {v : V} {z : Bool} (e : Ex H H') (h : IsI K H v z) : IsI K H' v z := by
  obtain ⟨t, b, c, ty, r⟩ := h
  exact ⟨t, b, c, TyX.ex e ty, r⟩
theorem IsI.int {H : Hp} (i : Int) : IsI K H (.int i) true := ⟨"int", true, false, .base (.int i), by decide +kernel, by decide +kernel, rfl⟩
theorem IsI.bl {H : Hp} (b : Bool) : IsI K H (.bl b) false := ⟨"bool", true, true, .base (.bl b), by decide +kernel, by decide +kernel, rfl⟩
theorem IsI.non {H : Hp} : IsI K H .non false := ⟨"NoneType", false, false, .base .non, by decide +kernel, by decide +kernel, rfl⟩
theorem IsI.str {H : Hp} (x : Str) : IsI K H (.str x) false := ⟨"str", false, false, .base (.str x), by decide +kernel, by decide +kernel, rfl⟩
theorem IsI.tup {H : Hp} {a : Addr} {xs : List V} (h : H a = some (.tup xs)) : IsI K H (.ref a) false := ⟨"tuple", false, false, .base (.tup h), by decide +kernel, by decide +kernel, rfl⟩
theorem IsI.lst {H : Hp} {a : Addr} {xs : List V} (h : H a = some (.lst xs)) : IsI K H (.ref a) false := ⟨"list", false, false, .base (.lst h), by decide +kernel, by decide +kernel, rfl⟩
def spIsI (K : PySem.W.Frag) : Sp := fun vs H Q _ => ∃ (v : V) (z : Bool), vs = [v] ∧ IsI K H v z ∧ ∀ H', Ex H H' → Q (.bl z) H'
theorem boot_isi : bootBuiltins "isinstance" = some (.builtin "isinstance") := by decide +kernel
theorem ok_is_integer (T : Tx K mg) : Has P w K mg base CX0 1 "is_integer" ["value"] (spIsI K) := by
  refine Has.of T.f_is_integer T.g_is_integer sc_is_integer bd_is_integer (fun vs H Q E h => ?_) (fun cdv A outer s H vs Q E hr h => ?_)
  · obtain ⟨v, z, rfl, _⟩ := h
    rfl
  · obtain ⟨v, z, rfl, ⟨t, b, c, ty, hb, hc, rfl⟩, k⟩ := h
    refine ⟨_, pss_one (ps_ret (pe_and (pe_callB call_isi rfl T.n_isinstance boot_isi (pa_cons (pv 0) (pa_cons (pe_ty rfl T.n_int boot_int) pa_nil)))
      (pe_one (pe_not (pe_callB call_isi rfl T.n_isinstance boot_isi (pa_cons (pv 0) (pa_cons (pe_ty rfl T.n_bool boot_bool) pa_nil))))))), ?_⟩
    exact s_ret (ev_andV (ev_isi (ev_var rfl) ty hb) fun _ => ev_notV (ev_isi (ev_var rfl) ty hc)) k
/-- is_between(v, low, high) -/
def Btw (K : PySem.W.Frag) (H : Hp) (v : V) (lo hi : Int) (z : Bool) : Prop := (∃ i, v = .int i ∧ z = (decide (lo ≤ i) && decide (i ≤ hi))) ∨ (IsI K H v false ∧ z = false)
theorem Btw.ex {H H' : Hp} {v : V} {lo hi : Int} {z : Bool} (e : Ex H H') (h : Btw K H v lo hi z) : Btw K H' v lo hi z := by
  rcases h with h | ⟨h, r⟩
  · exact .inl h
  · exact .inr ⟨h.ex e, r⟩
theorem Btw.yes {H : Hp} {i lo hi : Int} (h1 : lo ≤ i) (h2 : i ≤ hi) : Btw K H (.int i) lo hi true := .inl ⟨i, rfl, by simp [h1, h2]⟩
def spBtw (K : PySem.W.Frag) : Sp := fun vs H Q _ => ∃ (v : V) (lo hi : Int) (z : Bool), vs = [v, .int lo, .int hi] ∧ Btw K H v lo hi z ∧ ∀ H', Ex H H' → Q (.bl z) H'
theorem ok_is_between (T : Tx K mg) : Has P w K mg base CX0 2 "is_between" ["value", "low", "high"] (spBtw K) := by
  have G := ok_is_integer (P := P) (w := w) (base := base) T
  refine Has.of T.f_is_between T.g_is_between sc_is_between bd_is_between (fun vs H Q E h => ?_) (fun cdv A outer s H vs Q E hr h => ?_)
  · obtain ⟨v, lo, hi, z, rfl, _⟩ := h
    rfl
  · obtain ⟨v, lo, hi, z, rfl, hz, k⟩ := h
    refine ⟨_, pss_one (ps_ret (pe_and (pe_hc G hr rfl pass0 (pa_cons (pv 0) pa_nil)) (pe_one (pe_chain op_le op_le (pv 1) (pv 0) (pv 2))))), ?_⟩
    have ev : ∀ z', IsI K H v z' → Ev (tCall (spIsI K) [] E0 (tCons (tVar 0) tNil)) (start ["value", "low", "high"] [v, V.int lo, V.int hi]) H (.bl z') := fun z' hi =>
      ev_hc (ea_cons (ev_var rfl) ea_nil) fun H1 e Q q => ⟨v, z', rfl, hi.ex e, q⟩
    rcases hz with ⟨i, rfl, rfl⟩ | ⟨hi, rfl⟩
    · exact s_ret (ev_andV (ev true (.int i)) fun _ => ev_chain (ev_var rfl) (ev_var rfl) (ev_var rfl)) k
    · exact s_ret (ev_andV (b := false) (ev false hi) fun z => nomatch z) k
/-- need_figure(m), m from 1 to 20 -/
def spFig : Sp := fun vs H Q _ => ∃ m : Int, vs = [.int m] ∧ (1 ≤ m ∧ m ≤ 20) ∧ ∀ H', Ex H H' → Q .non H'
theorem ok_need_figure (T : Tx K mg) : Has P w K mg base CX0 3 "need_figure" ["m"] spFig := by
  have G := ok_is_between (P := P) (w := w) (base := base) T
  refine Has.of T.f_need_figure T.g_need_figure sc_need_figure bd_need_figure (fun vs H Q E h => ?_) (fun cdv A outer s H vs Q E hr h => ?_)
  · obtain ⟨m, rfl, _⟩ := h
    rfl
  · obtain ⟨m, rfl, hm, k⟩ := h
    refine ⟨_, pss_one (ps_if (pt_not (pt_val (pe_hc G hr rfl pass0 (pa_cons (pv 0) (pa_cons pe_int (pa_cons (pe_gi rfl T.i_MOST_FIGURE) pa_nil)))))) pss_never pss_nil), ?_⟩
    refine s_if (et_not (et_B (b := true) (ev_hc (ea_cons (ev_var rfl) (ea_cons ev_c (ea_cons ev_c ea_nil))) fun H1 e Q q => ⟨_, 1, 20, true, rfl, .yes hm.1 hm.2, q⟩))) (fun z => nomatch z) fun _ H1 e => ?_
    exact k H1 e
end
end K91
set_option Elab.async false
set_option linter.all false
set_option maxRecDepth 100000
set_option maxHeartbeats 4000000
namespace K91
open PySem PySem.Spec PyProof.Rows L2 Evl G7
section
variable {P : Program} {w : World} {K : PySem.W.Frag} {mg : Str → Option Value} {base : Heap}
def spMz : Sp := fun vs H Q _ => ∃ n : Int, vs = [.int n] ∧ 0 ≤ n ∧ n < 2 ^ 200 ∧ ∀ H', Ex H H' → Q (.int (mz n)) H'
theorem ok_odd_ones (T : Tx K mg) : Has P w K mg base CX0 1 "odd_ones" ["n"] spMz := by
  refine Has.of T.f_odd_ones T.g_odd_ones sc_odd_ones bd_odd_ones (fun vs H Q E h => ?_) (fun cdv A outer s H vs Q E hr h => ?_)
  · obtain ⟨n, rfl, _⟩ := h
    rfl
  · obtain ⟨n, rfl, h0, h2, k⟩ := h
    refine ⟨_, pss_cons (ps_set (i := 1) sc_odd_ones.nd rfl (Or.inl rfl) pe_int)
      (pss_cons (ps_while PassesOwn.never (pt_cmpR op_gt (pv 0) pe_int (nomark _)) (pss_one (ps_par (i := 1) (j := 0) rfl sc_odd_ones.nd rfl rfl (by decide) rfl rfl
        (pa_cons (pe_op op_mod (pe_op op_add (pv 1) (pv 0)) pe_int) (pa_cons (pe_op op_fdiv (pv 0) pe_int) pa_nil)) (by rfl))))
      (pss_one (ps_ret (pv 1)))), ?_⟩
    refine s_asg ev_c fun H1 e1 => ?_
    refine s_while (fun m σ H' => ∃ i f : Int, σ = [some (.int i), some (.int f)] ∧ m = i.toNat ∧ 0 ≤ i ∧ i < 2 ^ 200 ∧ (f = 0 ∨ f = 1) ∧ (f + mz i) % 2 = mz n ∧ Ex H H') n.toNat ⟨n, 0, rfl, rfl, h0, h2, .inl rfl, ?_, e1⟩ ?_
    · have := mz_01 n
      omega
    · rintro m σ' H' ⟨i, f, rfl, rfl, g0, g2, gf, gm, ex⟩
      refine ⟨decide (0 < i), et_ii (ev_var rfl) ev_c, fun hb H1 e2 => ?_, fun hb H1 e2 => ?_⟩
      · have hi : 0 < i := of_decide_eq_true hb
        refine ⟨_, fun _ _ z => z, ?_⟩
        refine s_par (ea_cons (ev_iC (ev_ii (ev_var rfl) (ev_var rfl)) ev_c (by decide)) (ea_cons (ev_iC (ev_var rfl) ev_c ⟨by decide, by decide⟩) ea_nil)) fun H2 e3 => ?_
        have st := mz_step g0 g2
        have m1 := mz_01 (i / 2)
        exact ⟨(i / 2).toNat, by omega, i / 2, (f + i) % 2, rfl, rfl, by omega, by omega, by omega, by omega, (ex.trans e2).trans e3⟩
      · have hi : ¬ 0 < i := of_decide_eq_false hb
        have ei : i = 0 := by omega
        subst ei
        rw [mz_zero] at gm
        have e : f = mz n := by omega
        rw [e]
        exact s_ret (ev_var rfl) fun H2 e3 => k H2 ((ex.trans e2).trans e3)
theorem ok_aw_morse (T : Tx K mg) : Has P w K mg base CX0 1 "_law_aw_morse" ["at"] spMz := by
  refine Has.of T.f_law_aw_morse T.g_law_aw_morse sc_law_aw_morse bd_law_aw_morse (fun vs H Q E h => ?_) (fun cdv A outer s H vs Q E hr h => ?_)
  · obtain ⟨n, rfl, _⟩ := h
    rfl
  · obtain ⟨n, rfl, h0, h2, k⟩ := h
    refine ⟨_, pss_cons (ps_set (i := 1) sc_law_aw_morse.nd rfl (Or.inl rfl) pe_int)
      (pss_cons (ps_while PassesOwn.never (pt_cmpR op_gt (pv 0) pe_int (nomark _)) (pss_one (ps_par (i := 1) (j := 0) rfl sc_law_aw_morse.nd rfl rfl (by decide) rfl rfl
        (pa_cons (pe_op op_add (pv 1) (pe_op op_mod (pe_callTy call_int1 rfl T.n_int boot_int (pa_cons (pv 0) pa_nil)) pe_int)) (pa_cons (pe_op op_fdiv (pv 0) pe_int) pa_nil)) (by rfl))))
      (pss_one (ps_ret (pe_op op_mod (pe_callTy call_int1 rfl T.n_int boot_int (pa_cons (pv 1) pa_nil)) pe_int)))), ?_⟩
    refine s_asg ev_c fun H1 e1 => ?_
    refine s_while (fun m σ H' => ∃ i f : Int, σ = [some (.int i), some (.int f)] ∧ m = i.toNat ∧ 0 ≤ i ∧ i < 2 ^ 200 ∧ (f + mz i) % 2 = mz n ∧ Ex H H') n.toNat ⟨n, 0, rfl, rfl, h0, h2, ?_, e1⟩ ?_
    · have := mz_01 n
      omega
    · rintro m σ' H' ⟨i, f, rfl, rfl, g0, g2, gm, ex⟩
      refine ⟨decide (0 < i), et_ii (ev_var rfl) ev_c, fun hb H1 e2 => ?_, fun hb H1 e2 => ?_⟩
      · have hi : 0 < i := of_decide_eq_true hb
        refine ⟨_, fun _ _ z => z, ?_⟩
        refine s_par (ea_cons (ev_ii (ev_var rfl) (ev_iC (ev_int1 (ev_var rfl)) ev_c (by decide))) (ea_cons (ev_iC (ev_var rfl) ev_c ⟨by decide, by decide⟩) ea_nil)) fun H2 e3 => ?_
        have st := mz_step g0 g2
        have m1 := mz_01 (i / 2)
        exact ⟨(i / 2).toNat, by omega, i / 2, f + i % 2, rfl, rfl, by omega, by omega, by omega, (ex.trans e2).trans e3⟩
      · have hi : ¬ 0 < i := of_decide_eq_false hb
        have ei : i = 0 := by omega
        subst ei
        rw [mz_zero] at gm
        have e : f % 2 = mz n := by omega
        rw [← e] at k
        exact s_ret (ev_iC (ev_int1 (ev_var rfl)) ev_c (by decide)) fun H2 e3 => k H2 ((ex.trans e2).trans e3)
end
end K91
set_option Elab.async false
set_option linter.all false
set_option maxRecDepth 100000
set_option maxHeartbeats 4000000
namespace K91
open PySem PySem.Spec PyProof.Rows L2 Evl G7
section
variable {P : Program} {w : World} {K : PySem.W.Frag} {mg : Str → Option Value} {base : Heap}
abbrev CB (K : PySem.W.Frag) : Addr := He.ga K "BadNumber"
theorem Tx.own (T : Tx K mg) : Own K "BadNumber" ["what", "number"] := ownB_ok (He.ba T.ex).1
def spBN (K : PySem.W.Frag) : Sp := fun vs H Q _ => ∃ (a : Addr) (y n : V), vs = [.ref a, y, n] ∧ H a = some (exo a (CB K) none) ∧
  ∀ dx, H dx = none → dx ≠ a → Q .non (upd (upd (upd H dx (exd dx [("what", y)])) a (exo a (CB K) (some dx))) dx (exd dx [("number", n), ("what", y)]))
theorem ok_bn_init (T : Tx K mg) : ∃ fd, FnOk P w K mg base CX0 1 (He.ma K (CB K) "__init__") fd ["self", "what", "number"] (spBN K) ∧ Binds K fd ["self", "what", "number"] [] := by
  have O := T.own
  obtain ⟨fd, F⟩ := T.f_BadNumber_init
  refine ⟨fd, F.ok sc_BadNumber_init (fun vs H Q E h => ?_) (fun cdv A outer s H vs Q E hr h => ?_), F.bindsN bd_BadNumber_init⟩
  · obtain ⟨a, y, n, rfl, _⟩ := h
    rfl
  · obtain ⟨a, y, n, rfl, ha, k⟩ := h
    refine ⟨_, PSs.nox (pss_cons (ps_ost (pv 0) (pv 1)) (pss_one (ps_ost (pv 0) (pv 2)))), ?_⟩
    refine ⟨y, rfl, .ref a, rfl, a, CB K, rfl, O.o, O.n _ (by simp), .inl ⟨ha, fun dx hd hne => ?_⟩⟩
    refine ⟨n, rfl, .ref a, rfl, a, CB K, rfl, O.o, O.n _ (by simp), .inr ⟨dx, [("what", y)], upd_same, by rw [upd_ne hne]; exact upd_same, by show 1 ≤ 900; decide, ?_⟩⟩
    exact k dx hd hne
theorem exc_ex {H : Hp} {a d : Addr} {o1 o2 o3 o4 o5 : HO} (ha : H a = none) (hd : H d = none) : Ex H (upd (del (upd (upd (upd (upd H a o1) d o2) a o3) d o4) a) d o5) := fun b o hb => by
  have na : b ≠ a := ne_of_none hb ha
  have nd : b ≠ d := ne_of_none hb hd
  rw [upd_ne nd, del_ne na, upd_ne nd, upd_ne na, upd_ne nd, upd_ne na]
  exact hb
/-- what an error BadNumber(what, n) leaves -/
def EBN (K : PySem.W.Frag) (H : Hp) (y n : V) (E : XK) : Prop := ∀ d H', H d = none → Ex H H' → H' d = some (.xd [("number", n), ("what", y)]) → E (.ref (CB K)) (some d) H'
theorem EBN.ex {H H' : Hp} {y n : V} {E : XK} (e : Ex H H') (h : EBN K H y n E) : EBN K H' y n E := fun d H2 hd e2 h2 => h d H2 (fresh_back e hd) (e.trans e2) h2
def spNeed (K : PySem.W.Frag) : Sp := fun vs H Q E => ∃ (y n : V) (lo hi : Int) (z : Bool), vs = [y, n, .int lo, .int hi] ∧ Btw K H n lo hi z ∧ (z = true → ∀ H', Ex H H' → Q .non H') ∧ (z = false → EBN K H y n E)
theorem ok_need_between (T : Tx K mg) : Has P w K mg base (L2.CX P w) 4 "need_between" ["what", "number", "low", "high"] (spNeed K) := by
  have O := T.own
  have G := ok_is_between (P := P) (w := w) (base := base) T
  obtain ⟨fdI, FI, bI⟩ := ok_bn_init (P := P) (w := w) (base := base) T
  refine Has.ofX T.f_need_between T.g_need_between sc_need_between bd_need_between (fun vs H Q E h => ?_) (fun cdv A outer s H vs Q E hr h => ?_)
  · obtain ⟨y, n, lo, hi, z, rfl, _⟩ := h
    rfl
  · obtain ⟨y, n, lo, hi, z, rfl, hz, k1, k2⟩ := h
    refine ⟨_, pss_one (ps_if (pt_not (pt_val (pe_hc G (hr.mono (by decide)) rfl pass0 (pa_cons (pv 1) (pa_cons (pv 2) (pa_cons (pv 3) pa_nil))))))
      (pss_one (ps_raise rfl (takes_of rfl rfl rfl rfl) (pmk_oex O.o O.i O.t FI (hr.mono (by decide)) bI .nil pass0 rfl T.g_BadNumber (pa_cons (pv 0) (pa_cons (pv 1) pa_nil))))) pss_nil), ?_⟩
    refine s_if (et_not (et_B (b := z) (ev_hc (ea_cons (ev_var rfl) (ea_cons (ev_var rfl) (ea_cons (ev_var rfl) ea_nil))) fun H1 e Q q => ⟨n, lo, hi, z, rfl, hz.ex e, q⟩))) (fun hb H1 e => ?_) fun hb H1 e => ?_
    · have ez : z = false := by
        cases z
        · rfl
        · cases hb
      refine ⟨y, rfl, n, rfl, by show 2 ≤ 1000; decide, fun a ha => ⟨a, y, n, rfl, upd_same, fun dx hd hne => ⟨rfl, dx, _, by rw [upd_ne hne.symm]; exact upd_same, upd_same, ?_, ?_⟩⟩⟩
      · rw [upd_ne hne] at hd
        exact hd
      · have hd' : H1 dx = none := by
          rw [upd_ne hne] at hd
          exact hd
        exact (k2 ez).ex e dx _ hd' (exc_ex ha hd') upd_same
    · have ez : z = true := by
        cases z
        · cases hb
        · rfl
      exact k1 ez H1 e
/-- morse_item(n) -/
def spMorse (K : PySem.W.Frag) : Sp := fun vs H Q E => ∃ (n : V) (z : Bool), vs = [n] ∧ Btw K H n 0 (10 ^ 40) z ∧ (z = true → ∀ i, n = .int i → ∀ H', Ex H H' → Q (.int (mz i)) H') ∧ (z = false → EBN K H (.str "at") n E)
theorem ok_morse_item (T : Tx K mg) : Has P w K mg base (L2.CX P w) 5 "morse_item" ["at"] (spMorse K) := by
  have G := ok_need_between (P := P) (w := w) (base := base) T
  refine Has.ofX T.f_morse_item T.g_morse_item sc_morse_item bd_morse_item (fun vs H Q E h => ?_) (fun cdv A outer s H vs Q E hr h => ?_)
  · obtain ⟨n, z, rfl, _⟩ := h
    rfl
  · obtain ⟨n, z, rfl, hz, k1, k2⟩ := h
    refine ⟨_, pss_cons (ps_expr (pe_hcS G hr rfl (fun σ => passAt (takes_of (E := E) rfl rfl rfl rfl) σ) (pa_cons pe_str (pa_cons (pv 0) (pa_cons pe_int (pa_cons (pe_gi rfl T.i_MOST_ITEM) pa_nil))))))
      (PSs.nox (pss_cons (ps_set (i := 1) sc_morse_item.nd rfl (Or.inl rfl) pe_int)
      (pss_cons (ps_while PassesOwn.never (pt_cmpR op_gt (pv 0) pe_int (nomark _)) (pss_one (ps_par (i := 0) (j := 1) rfl sc_morse_item.nd rfl rfl (by decide) rfl rfl
        (pa_cons (pe_op op_fdiv (pv 0) pe_int) (pa_cons (pe_op op_add (pv 1) (pe_op op_mod (pv 0) pe_int)) pa_nil)) (by rfl))))
      (pss_one (ps_ret (pe_op op_mod (pv 1) pe_int)))))), ?_⟩
    refine ⟨n, rfl, .str "at", n, 0, 10 ^ 40, z, rfl, hz, fun ez H1 e1 => ?_, k2⟩
    obtain ⟨i, rfl, hzi⟩ : ∃ i, n = .int i ∧ z = (decide ((0 : Int) ≤ i) && decide (i ≤ 10 ^ 40)) := by
      rcases hz with hz | ⟨_, hz⟩
      · exact hz
      · rw [ez] at hz
        cases hz
    have hz' : (decide ((0 : Int) ≤ i) && decide (i ≤ 10 ^ 40)) = true := by rw [← hzi, ez]
    obtain ⟨hz1, hz2⟩ := He.ba hz'
    have h0 := of_decide_eq_true hz1
    have h1 := of_decide_eq_true hz2
    have hb : (10 : Int) ^ 40 < 2 ^ 200 := by decide
    have k := k1 ez i rfl
    dsimp only
    refine s_asg ev_c fun H2 e2 => ?_
    refine s_while (fun m σ H' => ∃ j f : Int, σ = [some (.int j), some (.int f)] ∧ m = j.toNat ∧ 0 ≤ j ∧ j < 2 ^ 200 ∧ (f + mz j) % 2 = mz i ∧ Ex H H') i.toNat ⟨i, 0, rfl, rfl, h0, by omega, ?_, e1.trans e2⟩ ?_
    · have := mz_01 i
      omega
    · rintro m σ' H' ⟨j, f, rfl, rfl, g0, g2, gm, ex⟩
      refine ⟨decide (0 < j), et_ii (ev_var rfl) ev_c, fun hb H1 e2 => ?_, fun hb H1 e2 => ?_⟩
      · have hi : 0 < j := of_decide_eq_true hb
        refine ⟨_, fun _ _ z => z, ?_⟩
        refine s_par (ea_cons (ev_iC (ev_var rfl) ev_c ⟨by decide, by decide⟩) (ea_cons (ev_ii (ev_var rfl) (ev_iC (ev_var rfl) ev_c (by decide))) ea_nil)) fun H2 e3 => ?_
        have st := mz_step g0 g2
        have m1 := mz_01 (j / 2)
        exact ⟨(j / 2).toNat, by omega, j / 2, f + j % 2, rfl, rfl, by omega, by omega, by omega, (ex.trans e2).trans e3⟩
      · have hi : ¬ 0 < j := of_decide_eq_false hb
        have ei : j = 0 := by omega
        subst ei
        rw [mz_zero] at gm
        have e : f % 2 = mz i := by omega
        rw [← e] at k
        exact s_ret (ev_iC (ev_var rfl) ev_c (by decide)) fun H2 e3 => k H2 ((ex.trans e2).trans e3)
end
end K91
set_option Elab.async false
set_option linter.all false
set_option maxRecDepth 100000
set_option maxHeartbeats 4000000
namespace K91
open PySem PySem.Spec PyProof.Rows L2 Evl G7
def lor (m i : Int) : Int := if m % 2 = 0 then m / 2 + mz (i + 1) - mz i else m / 2 + mz (i + 1)
section
variable {P : Program} {w : World} {K : PySem.W.Frag} {mg : Str → Option Value} {base : Heap}
def spLor : Sp := fun vs H Q _ => ∃ m i : Int, vs = [.int m, .int i] ∧ (1 ≤ m ∧ m ≤ 20) ∧ (0 ≤ i ∧ i ≤ 10 ^ 9) ∧ ∀ H', Ex H H' → Q (.int (lor m i)) H'
theorem ok_loreti_by (T : Tx K mg) : Has P w K mg base CX0 2 "loreti_by" ["m", "i"] spLor := by
  have G := ok_odd_ones (P := P) (w := w) (base := base) T
  refine Has.of T.f_loreti_by T.g_loreti_by sc_loreti_by bd_loreti_by (fun vs H Q E h => ?_) (fun cdv A outer s H vs Q E hr h => ?_)
  · obtain ⟨m, i, rfl, _⟩ := h
    rfl
  · obtain ⟨m, i, rfl, hm, hi, k⟩ := h
    have hb : (10 : Int) ^ 9 + 1 < 2 ^ 200 := by decide
    refine ⟨_, pss_cons (ps_par (i := 2) (j := 3) rfl sc_loreti_by.nd rfl rfl (by decide) rfl rfl (pa_cons (pe_op op_fdiv (pv 0) pe_int) (pa_cons (pe_hc G hr rfl pass0 (pa_cons (pe_op op_add (pv 1) pe_int) pa_nil)) pa_nil)) (by rfl))
      (pss_one (ps_ret (pe_ifExp (pt_cmpR op_eq (pe_op op_mod (pv 0) pe_int) pe_int (nomark _)) (pe_op op_sub (pe_op op_add (pv 2) (pv 3)) (pe_hc G hr rfl pass0 (pa_cons (pv 1) pa_nil))) (pe_op op_add (pv 2) (pv 3))))), ?_⟩
    refine s_par (ea_cons (ev_iC (ev_var rfl) ev_c ⟨by decide, by decide⟩) (ea_cons (ev_hc (z := .int (mz (i + 1))) (ea_cons (ev_ii (ev_var rfl) ev_c) ea_nil) fun H1 e Q q => ⟨i + 1, rfl, by omega, by omega, q⟩) ea_nil)) fun H1 e1 => ?_
    have kk : ∀ H', Ex H1 H' → Q (.int (lor m i)) H' := fun H' e => k H' (e1.trans e)
    unfold lor at kk
    by_cases h : m % 2 = 0
    · rw [if_pos h] at kk
      refine s_ret (ev_if (b := m % 2 == 0) (et_eqi (ev_iC (ev_var rfl) ev_c (by decide)) ev_c) (fun _ => ev_ii (ev_ii (ev_var rfl) (ev_var rfl)) (ev_hc (z := .int (mz i)) (ea_cons (ev_var rfl) ea_nil) fun H1 e Q q => ⟨i, rfl, by omega, by omega, q⟩)) fun hb => ?_) kk
      rw [beq_iff_eq.mpr h] at hb
      cases hb
    · rw [if_neg h] at kk
      refine s_ret (ev_if (b := m % 2 == 0) (et_eqi (ev_iC (ev_var rfl) ev_c (by decide)) ev_c) (fun hb => ?_) fun _ => ev_ii (ev_var rfl) (ev_var rfl)) kk
      exact absurd (beq_iff_eq.mp hb) h
theorem ok_loreti_item (T : Tx K mg) : Has P w K mg base CX0 4 "loreti_item" ["m", "i"] spLor := by
  have G1 := ok_need_figure (P := P) (w := w) (base := base) T
  have G2 := ok_is_between (P := P) (w := w) (base := base) T
  have G3 := ok_loreti_by (P := P) (w := w) (base := base) T
  refine Has.of T.f_loreti_item T.g_loreti_item sc_loreti_item bd_loreti_item (fun vs H Q E h => ?_) (fun cdv A outer s H vs Q E hr h => ?_)
  · obtain ⟨m, i, rfl, _⟩ := h
    rfl
  · obtain ⟨m, i, rfl, hm, hi, k⟩ := h
    refine ⟨_, pss_cons (ps_expr (pe_hc G1 hr rfl pass0 (pa_cons (pv 0) pa_nil)))
      (pss_cons (ps_if (pt_not (pt_val (pe_hc G2 (hr.mono (by decide)) rfl pass0 (pa_cons (pv 1) (pa_cons pe_int (pa_cons (pe_gi rfl T.i_MOST_INDEX) pa_nil)))))) pss_never pss_nil)
      (pss_one (ps_ret (pe_hc G3 (hr.mono (by decide)) rfl pass0 (pa_cons (pv 0) (pa_cons (pv 1) pa_nil)))))), ?_⟩
    refine s_drop (v := .non) (ev_hc (ea_cons (ev_var rfl) ea_nil) fun H1 e Q q => ⟨m, rfl, hm, q⟩) fun H1 e1 => ?_
    refine s_if (et_not (et_B (b := true) (ev_hc (ea_cons (ev_var rfl) (ea_cons ev_c (ea_cons ev_c ea_nil))) fun H1 e Q q => ⟨_, 0, 10 ^ 9, true, rfl, .yes hi.1 hi.2, q⟩))) (fun z => nomatch z) fun _ H2 e2 => ?_
    exact s_ret (ev_hc (ea_cons (ev_var rfl) (ea_cons (ev_var rfl) ea_nil)) fun H1 e Q q => ⟨m, i, rfl, hm, hi, q⟩) fun H3 e3 => k H3 ((e1.trans e2).trans e3)
theorem ok_aw_loreti (T : Tx K mg) : Has P w K mg base CX0 2 "_law_aw_loreti" ["m", "at"] spLor := by
  have G := ok_aw_morse (P := P) (w := w) (base := base) T
  refine Has.of T.f_law_aw_loreti T.g_law_aw_loreti sc_law_aw_loreti bd_law_aw_loreti (fun vs H Q E h => ?_) (fun cdv A outer s H vs Q E hr h => ?_)
  · obtain ⟨m, i, rfl, _⟩ := h
    rfl
  · obtain ⟨m, i, rfl, hm, hi, k⟩ := h
    have hb : (10 : Int) ^ 9 + 1 < 2 ^ 200 := by decide
    refine ⟨_, pss_one (ps_ret (pe_op op_sub (pe_op op_add (pe_op op_fdiv (pv 0) pe_int) (pe_hc G hr rfl pass0 (pa_cons (pe_op op_add (pv 1) pe_int) pa_nil)))
      (pe_ifExp (pt_cmpR op_eq (pe_op op_mod (pe_callTy call_int1 rfl T.n_int boot_int (pa_cons (pv 0) pa_nil)) pe_int) pe_int (nomark _)) (pe_hc G hr rfl pass0 (pa_cons (pv 1) pa_nil)) pe_int))), ?_⟩
    have e1 : Ev (tCall spMz [] E0 (tCons (tOp (rI0 fun i j => V.int (i + j)) (tVar 1) (tC (V.int 1))) tNil)) (start ["m", "at"] [V.int m, V.int i]) H (.int (mz (i + 1))) := ev_hc (ea_cons (ev_ii (ev_var rfl) ev_c) ea_nil) fun H1 e Q q => ⟨i + 1, rfl, by omega, by omega, q⟩
    have kk : ∀ H', Ex H H' → Q (.int (m / 2 + mz (i + 1) - (if m % 2 = 0 then mz i else 0))) H' := fun H' e => by
      have q := k H' e
      unfold lor at q
      split at q
      · rename_i h
        rw [if_pos h]
        exact q
      · rename_i h
        rw [if_neg h, Int.sub_zero]
        exact q
    refine s_ret (ev_ii (ev_ii (ev_iC (ev_var rfl) ev_c ⟨by decide, by decide⟩) e1) ?_) kk
    refine ev_if (b := m % 2 == 0) (et_eqi (ev_iC (ev_int1 (ev_var rfl)) ev_c (by decide)) ev_c) (fun hb => ?_) fun hb => ?_
    · rw [if_pos (beq_iff_eq.mp hb)]
      exact ev_hc (ea_cons (ev_var rfl) ea_nil) fun H1 e Q q => ⟨i, rfl, by omega, by omega, q⟩
    · have h : ¬ m % 2 = 0 := fun z => by rw [beq_iff_eq.mpr z] at hb; cases hb
      rw [if_neg h]
      exact ev_c
end
end K91
set_option Elab.async false
set_option linter.all false
set_option maxRecDepth 100000
set_option maxHeartbeats 4000000
namespace K91
open PySem PySem.Spec PyProof.Rows L2 Evl G7
/-- the ring of the row G -/
def gring (m : Int) : List V := if m % 2 = 0 then [.int (m / 2)] else [.int (m / 2 + 1), .int (m / 2)]
section
variable {P : Program} {w : World} {K : PySem.W.Frag} {mg : Str → Option Value} {base : Heap}
def spGB : Sp := fun vs H Q _ => ∃ m : Int, vs = [.int m] ∧ ∀ p a r H', Ex H H' → H' p = some (.tup [.ref a, .ref r]) → H' a = some (.tup []) → H' r = some (.tup (gring m)) → Q (.ref p) H'
theorem ok_golden_by (T : Tx K mg) : Has P w K mg base CX0 1 "golden_by" ["m"] spGB := by
  refine Has.of T.f_golden_by T.g_golden_by sc_golden_by bd_golden_by (fun vs H Q E h => ?_) (fun cdv A outer s H vs Q E hr h => ?_)
  · obtain ⟨m, rfl, _⟩ := h
    rfl
  · obtain ⟨m, rfl, k⟩ := h
    refine ⟨_, pss_cons (ps_set (i := 1) sc_golden_by.nd rfl (Or.inl rfl) (pe_op op_fdiv (pv 0) pe_int))
      (pss_one (ps_ret (pe_ifExp (pt_cmpR op_eq (pe_op op_mod (pv 0) pe_int) pe_int (nomark _))
        (pe_tup (pa_cons (pe_tup pa_nil) (pa_cons (pe_tup (pa_cons (pv 1) pa_nil)) pa_nil)))
        (pe_tup (pa_cons (pe_tup pa_nil) (pa_cons (pe_tup (pa_cons (pe_op op_add (pv 1) pe_int) (pa_cons (pv 1) pa_nil))) pa_nil)))))), ?_⟩
    refine s_asg (ev_iC (ev_var rfl) ev_c ⟨by decide, by decide⟩) fun H1 e1 => ?_
    have two : ∀ (xs : List V) (H2 : Hp) (Q2 : VK), Ex H1 H2 → xs.length ≤ 10 → gring m = xs → (∀ H', Q2 = Q) →
        ∀ (tx : TE) (σ : L2.St), EvU tx σ H2 xs → tTup (tCons (tTup tNil) (tCons tx tNil)) σ H2 Q2 := fun xs H2 Q2 e2 hl hx hQ tx σ hU => by
      refine ⟨by decide, fun a ha => ?_⟩
      refine hU _ (Ex.new ha) _ fun r H3 hr e3 h3 => ?_
      refine ⟨by show 2 ≤ sizeLine; decide, fun p hp => ?_⟩
      rw [hQ H3]
      have a3 : H3 a = some (.tup []) := e3 _ _ upd_same
      refine k p a r _ ((((e1.trans e2).trans (Ex.new ha)).trans e3).trans (Ex.new hp)) upd_same ?_ ?_
      · rw [upd_ne (ne_of_none a3 hp)]
        exact a3
      · rw [upd_ne (ne_of_none h3 hp), hx]
        exact h3
    refine et_eqi (ev_iC (ev_var rfl) ev_c (by decide)) ev_c H1 (Ex.refl H1) _ fun H2 e2 => ?_
    by_cases h : m % 2 = 0
    · rw [beq_iff_eq.mpr h]
      exact two [.int (m / 2)] H2 Q e2 (by show 1 ≤ 10; decide) (by unfold gring; rw [if_pos h]) (fun _ => rfl) _ _ (eu_tup (ea_cons (ev_var rfl) ea_nil) (by show 1 ≤ 100000; decide))
    · rw [beq_eq_false_iff_ne.mpr h]
      exact two [.int (m / 2 + 1), .int (m / 2)] H2 Q e2 (by show 2 ≤ 10; decide) (by unfold gring; rw [if_neg h]) (fun _ => rfl) _ _ (eu_tup (ea_cons (ev_ii (ev_var rfl) ev_c) (ea_cons (ev_var rfl) ea_nil)) (by show 2 ≤ 100000; decide))
/-- as_tuples of an int -/
def spAT0 : Sp := fun vs H Q _ => ∃ i : Int, vs = [.int i] ∧ ∀ H', Ex H H' → Q (.int i) H'
/-- as_tuples of a tuple of ints -/
def spAT1 : Sp := fun vs H Q _ => ∃ (a : Addr) (ns : List Int), vs = [.ref a] ∧ H a = some (.tup (ns.map V.int)) ∧ ns.length ≤ 1000 ∧ ∀ p H', H p = none → Ex H H' → H' p = some (.tup (ns.map V.int)) → Q (.ref p) H'
theorem ok_as_tuples0 (T : Tx K mg) : Has P w K mg base CX0 1 "as_tuples" ["value"] spAT0 := by
  refine Has.of T.f_as_tuples T.g_as_tuples sc_as_tuples bd_as_tuples (fun vs H Q E h => ?_) (fun cdv A outer s H vs Q E hr h => ?_)
  · obtain ⟨i, rfl, _⟩ := h
    rfl
  · obtain ⟨i, rfl, k⟩ := h
    refine ⟨_, pss_cons (ps_if (pt_val (pe_callB call_isiT rfl T.n_isinstance boot_isi (pa_cons (pv 0) (pa_cons (pe_tup (pa_cons (pe_ty rfl T.n_list boot_list) (pa_cons (pe_ty rfl T.n_tuple boot_tuple) pa_nil))) pa_nil)))) pss_never pss_nil)
      (pss_one (ps_ret (pv 0))), ?_⟩
    refine s_if (et_B (ev_isi2 (b1 := false) (b2 := false) (ev_var rfl) (.base (.int i)) (by decide +kernel) (by decide +kernel))) (fun z => nomatch z) fun _ H1 e1 => ?_
    exact s_ret (ev_var rfl) fun H2 e2 => k H2 (e1.trans e2)
theorem ok_as_tuples1 (T : Tx K mg) : Has P w K mg base CX0 2 "as_tuples" ["value"] spAT1 := by
  have G := ok_as_tuples0 (P := P) (w := w) (base := base) T
  refine Has.of T.f_as_tuples T.g_as_tuples sc_as_tuples bd_as_tuples (fun vs H Q E h => ?_) (fun cdv A outer s H vs Q E hr h => ?_)
  · obtain ⟨a, ns, rfl, _⟩ := h
    rfl
  · obtain ⟨a, ns, rfl, ha, hl, k⟩ := h
    refine ⟨_, pss_cons (ps_if (pt_val (pe_callB call_isiT rfl T.n_isinstance boot_isi (pa_cons (pv 0) (pa_cons (pe_tup (pa_cons (pe_ty rfl T.n_list boot_list) (pa_cons (pe_ty rfl T.n_tuple boot_tuple) pa_nil))) pa_nil))))
      (pss_one (ps_ret (pe_callTy call_tuple_of rfl T.n_tuple boot_tuple (pa_cons
        (pe_lc (own := [("one", 1)]) (g := gName 1) (by rfl) sc_as_tuples.nd (pi_tup (pv 0)) (blkOk_by (own := [("one", 1)]) (N := ["value", "one"]) (sc := defScope s_as_tuples) (by decide +kernel))
          (fun _ _ _ _ _ => pg_name (i := 1) sc_as_tuples.nd rfl (Or.inl rfl)) (fun _ _ _ _ _ => pts_nil) (fun _ _ _ _ _ => pe_hc G hr rfl pass0 (pa_cons (pv 1) pa_nil))) pa_nil)))) pss_nil)
      (pss_one (ps_ret (pv 0))), ?_⟩
    refine s_if (et_B (ev_isi2 (b1 := false) (b2 := true) (ev_var rfl) (.base (.tup ha)) (by decide +kernel) (by decide +kernel))) (fun _ H1 e1 => ?_) fun z => nomatch z
    have hz : (ns.map V.int).length ≤ 40000 := by rw [List.length_map]; omega
    have hL := el_lcT (K := K) (σ := start ["value", "one"] [V.ref a]) (H := H1) (te := tCall spAT0 [] E0 (tCons (tVar 1) tNil)) (tl := tVar 0) (t := tYes) (j := 1) (vs := [1]) (fun _ => true) (fun i => (ns.map V.int).getD i .non) (ev_var rfl) (st_of (e1 _ _ ha)) hz (fun x => rfl) (fun _ _ _ _ _ => et_yes) (fun i x H2 e2 hi _ => ?_)
    · rw [given_all] at hL
      exact s_retU (eu_tupL hL) fun p H2 hp e2 h2 => k p H2 (fresh_back e1 hp) (e1.trans e2) h2
    · have ex : (ns.map V.int).getD i .non = x := by rw [List.getD_eq_getElem?_getD, hi]; rfl
      rw [ex]
      rw [List.getElem?_map] at hi
      cases hn : ns[i]? with
      | none =>
        rw [hn] at hi
        cases hi
      | some z =>
        rw [hn] at hi
        obtain rfl : V.int z = x := Option.some.inj hi
        exact ev_hc (ea_cons (ev_var rfl) ea_nil) fun H1 e Q q => ⟨z, rfl, q⟩
/-- Row(ahead, ring), made of tuples of ints -/
def flds (a r : Addr) : List (Str × V) := [("ahead", .ref a), ("ring", .ref r)]
def spRI (K : PySem.W.Frag) : Sp := fun vs H Q _ => ∃ (x dx a r : Addr) (ns ms : List Int), vs = [.ref x, .ref a, .ref r] ∧ H x = some (.ins (He.ga K "Row") dx []) ∧ H a = some (.tup (ns.map V.int)) ∧ ns.length ≤ 1000 ∧ H r = some (.tup (ms.map V.int)) ∧ ms.length ≤ 1000 ∧
  ∀ b c H', (∀ y o, H y = some o → y ≠ x → H' y = some o) → H' x = some (.ins (He.ga K "Row") dx (flds b c)) → H' b = some (.tup (ns.map V.int)) → H' c = some (.tup (ms.map V.int)) → Q .non H'
theorem Tx.rowC (T : Tx K mg) : Cls K (He.ga K "Row") := He.cls_ok (T.fact 56 (f := .cls "Row"))
theorem Tx.rowM (T : Tx K mg) : Mk K (He.ga K "Row") (He.ma K (He.ga K "Row") "__init__") := He.mkr_ok (T.fact 57 (f := .mkr "Row"))
theorem Tx.rowA (T : Tx K mg) : NoAttr K (He.ga K "Row") "ahead" := He.noat_ok (T.fact 58 (f := .noat "Row" "ahead"))
theorem Tx.rowR (T : Tx K mg) : NoAttr K (He.ga K "Row") "ring" := He.noat_ok (T.fact 59 (f := .noat "Row" "ring"))
theorem ok_row_init (T : Tx K mg) : ∃ fd, FnOk P w K mg base CX0 3 (He.ma K (He.ga K "Row") "__init__") fd ["self", "ahead", "ring"] (spRI K) ∧ Binds K fd ["self", "ahead", "ring"] [] := by
  have G := ok_as_tuples1 (P := P) (w := w) (base := base) T
  obtain ⟨fd, F⟩ := T.f_Row_init
  refine ⟨fd, F.ok sc_Row_init (fun vs H Q E h => ?_) (fun cdv A outer s H vs Q E hr h => ?_), F.bindsN bd_Row_init⟩
  · obtain ⟨x, dx, a, r, ns, ms, rfl, _⟩ := h
    rfl
  · obtain ⟨x, dx, a, r, ns, ms, rfl, hx, ha, ln, hb, lm, k⟩ := h
    refine ⟨_, PSs.nox (pss_cons (ps_fld (pv 0) (pe_hc G hr rfl pass0 (pa_cons (pv 1) pa_nil)) rfl) (pss_one (ps_fld (pv 0) (pe_hc G hr rfl pass0 (pa_cons (pv 2) pa_nil)) rfl))), ?_⟩
    have nax : a ≠ x := ne_of ha hx (by intro z; cases z)
    have nrx : r ≠ x := ne_of hb hx (by intro z; cases z)
    refine ⟨.ref a, rfl, a, ns, rfl, ha, ln, fun b H1 hnb e1 h1 => ?_⟩
    have nbx : b ≠ x := fun z => by rw [z, hx] at hnb; cases hnb
    refine ⟨.ref x, rfl, x, He.ga K "Row", dx, [], rfl, e1 _ _ hx, T.rowC, T.rowA, (by show 0 < 1000; decide), ?_⟩
    have hb1 : upd H1 x (.ins (He.ga K "Row") dx (putF "ahead" (.ref b) [])) r = some (.tup (ms.map V.int)) := by
      rw [upd_ne nrx]
      exact e1 _ _ hb
    refine ⟨.ref r, rfl, r, ms, rfl, hb1, lm, fun c H2 hnc e2 h2 => ?_⟩
    have hx2 := e2 x _ upd_same
    have hb2 : H2 b = some (.tup (ns.map V.int)) := e2 b _ (by rw [upd_ne nbx]; exact h1)
    have ncx : c ≠ x := fun z => by rw [z, upd_same] at hnc; cases hnc
    refine ⟨.ref x, rfl, x, He.ga K "Row", dx, _, rfl, hx2, T.rowC, T.rowR, (by show 1 < 1000; decide), ?_⟩
    refine k b c _ (fun y o hy hyx => ?_) upd_same ?_ ?_
    · rw [upd_ne hyx]
      exact e2 y o (by rw [upd_ne hyx]; exact e1 y o hy)
    · rw [upd_ne nbx]
      exact hb2
    · rw [upd_ne ncx]
      exact h2
def spGR (K : PySem.W.Frag) : Sp := fun vs H Q _ => ∃ m : Int, vs = [.int m] ∧ (1 ≤ m ∧ m ≤ 20) ∧ ∀ p dx a r H', Ex H H' → H' p = some (.ins (He.ga K "Row") dx (flds a r)) → H' a = some (.tup []) → H' r = some (.tup (gring m)) → Q (.ref p) H'
theorem ok_golden_row (T : Tx K mg) : Has P w K mg base CX0 5 "golden_row" ["m"] (spGR K) := by
  have G1 := ok_need_figure (P := P) (w := w) (base := base) T
  have G2 := ok_golden_by (P := P) (w := w) (base := base) T
  obtain ⟨fdI, FI, bI⟩ := ok_row_init (P := P) (w := w) (base := base) T
  refine Has.of T.f_golden_row T.g_golden_row sc_golden_row bd_golden_row (fun vs H Q E h => ?_) (fun cdv A outer s H vs Q E hr h => ?_)
  · obtain ⟨m, rfl, _⟩ := h
    rfl
  · obtain ⟨m, rfl, hm, k⟩ := h
    refine ⟨_, pss_cons (ps_expr (pe_hc G1 (hr.mono (by decide)) rfl pass0 (pa_cons (pv 0) pa_nil)))
      (pss_cons (ps_asg (pe_hc G2 (hr.mono (by decide)) rfl pass0 (pa_cons (pv 0) pa_nil)) (pg_tup (by rfl) (pgs_cons (pg_name (i := 1) sc_golden_row.nd rfl (Or.inl rfl)) (pgs_cons (pg_name (i := 2) sc_golden_row.nd rfl (Or.inl rfl)) pgs_nil))))
      (pss_one (ps_ret (pe_make T.rowM FI hr rfl T.g_Row bI .nil pass0 (pa_cons (pv 1) (pa_cons (pv 2) pa_nil)))))), ?_⟩
    refine s_drop (v := .non) (ev_hc (ea_cons (ev_var rfl) ea_nil) fun H1 e Q q => ⟨m, rfl, hm, q⟩) fun H1 e1 => ?_
    refine ⟨.int m, rfl, m, rfl, fun p a r H2 e2 hp ha hr' => ?_⟩
    refine ⟨p, _, rfl, st_of hp, rfl, _, _, rfl, _, _, rfl, rfl, ?_⟩
    refine ⟨.ref a, rfl, .ref r, rfl, fun x dx hx hdx hne => ?_⟩
    have ex2 : Ex H2 (upd (upd H2 dx (.own x)) x (.ins (He.ga K "Row") dx [])) := (Ex.new hdx).trans (Ex.new (by rw [upd_ne hne.symm]; exact hx))
    have hg : ∃ ms : List Int, gring m = ms.map V.int ∧ ms.length ≤ 1000 := by
      unfold gring
      split
      · exact ⟨[m / 2], rfl, by show 1 ≤ 1000; decide⟩
      · exact ⟨[m / 2 + 1, m / 2], rfl, by show 2 ≤ 1000; decide⟩
    obtain ⟨ms, em, lm⟩ := hg
    refine ⟨x, dx, a, r, [], ms, rfl, upd_same, ex2 _ _ ha, by decide, by rw [← em]; exact ex2 _ _ hr', lm, fun b c H3 e3 hx3 hb hc => ⟨rfl, ?_⟩⟩
    refine k x dx b c H3 (fun y o hy => ?_) hx3 hb (by rw [em]; exact hc)
    exact e3 y o (ex2 _ _ (e2 _ _ (e1 _ _ hy))) (fun z => by
      have q := e2 _ _ (e1 _ _ hy)
      rw [z, hx] at q
      cases q)
end
end K91
set_option Elab.async false
set_option linter.all false
set_option maxRecDepth 100000
set_option maxHeartbeats 4000000
namespace K91
open PySem PySem.Spec PyProof.Rows L2 Evl G7
section
variable {P : Program} {w : World} {K : PySem.W.Frag} {mg : Str → Option Value} {base : Heap}
def spPen (K : PySem.W.Frag) : Sp := fun vs H Q _ => ∃ (a : Addr) (ns : List Int), vs = [.ref a] ∧ SqL K H a (ns.map V.int) ∧ ∀ p H', Ex H H' → PenOk H' p → H p = none → Q (.ref p) H'
theorem ok_law_pen (T : Tx K mg) : Has P w K mg base CX0 1 "_law_pen" ["script"] (spPen K) := by
  refine Has.of T.f_law_pen T.g_law_pen sc_law_pen bd_law_pen (fun vs H Q E h => ?_) (fun cdv A outer s H vs Q E hr h => ?_)
  · obtain ⟨a, ns, rfl, _⟩ := h
    rfl
  · obtain ⟨a, ns, rfl, hS, k⟩ := h
    refine ⟨_, pss_cons (ps_set (i := 1) sc_law_pen.nd rfl (Or.inl rfl) pe_int)
      (pss_cons (ps_for PassesOwn.never rfl (pi_list (pv 0)) (pg_name (i := 2) sc_law_pen.nd rfl (Or.inl rfl))
        (pss_one (ps_set (i := 1) sc_law_pen.nd rfl (Or.inl rfl) (pe_op op_mod (pe_callTy call_int1 rfl T.n_int boot_int (pa_cons (pe_op op_add (pe_op op_mul (pv 1) pe_int) (pv 2)) pa_nil)) pe_int))))
      (pss_one (ps_ret (pe_disp (pps_cons pe_str (pe_callTy call_list_of rfl T.n_list boot_list (pa_cons (pv 0) pa_nil)) (pps_cons pe_str pe_int (pps_cons pe_str pe_int (pps_cons pe_str pe_int (pps_cons pe_str (pv 1) pps_nil))))) (by rfl) (by rfl) (fun z => by cases z) (by decide))))), ?_⟩
    refine s_asg ev_c fun H1 e1 => ?_
    refine s_forL (K := K) (a := a) (xs := ns.map V.int) (ev_var rfl) (ex_l e1 hS) (fun i σ H' => ∃ (f : Int) (v : Option V), σ = [some (.ref a), some (.int f), v] ∧ Ex H H') (fun H2 e2 => ⟨0, none, rfl, e1.trans e2⟩)
      (fun i σ H' _ ⟨_, _, _, ex⟩ => ex_l ex hS) ?_ ?_
    · rintro i y σ H' hi ⟨f, v, rfl, ex⟩
      obtain ⟨z, hz, rfl⟩ : ∃ z, ns[i]? = some z ∧ y = V.int z := by
        rw [List.getElem?_map] at hi
        cases e : ns[i]? with
        | none =>
          rw [e] at hi
          cases hi
        | some z =>
          rw [e] at hi
          exact ⟨z, rfl, (Option.some.inj hi).symm⟩
      refine s_asg (ev_iC (ev_int1 (ev_ii (ev_iC (ev_var rfl) ev_c (.inr ⟨by decide, by decide⟩)) (ev_var rfl))) ev_c (by decide)) fun H2 e2 => ?_
      exact ⟨_, _, rfl, ex.trans e2⟩
    · rintro σ H' ⟨f, v, rfl, ex⟩
      intro p hp
      refine ⟨.ref a, rfl, a, ns.map V.int, rfl, .inl (ex_l (ex.trans (Ex.new hp)) hS), fun l hl => ?_⟩
      refine ⟨.int f, rfl, ?_⟩
      have npl : p ≠ l := fun z => by rw [← z, upd_same] at hl; cases hl
      refine ⟨by rw [upd_ne npl]; exact upd_same, (⟨l, 0, 0, 0, f⟩ : Pen).kv, rfl, by show 5 ≤ 15; decide, ?_⟩
      rw [Pen.mk_]
      have hl' : H' l = none := by
        rw [upd_ne npl.symm] at hl
        exact hl
      refine k p _ (fun b o hb => ?_) ⟨⟨l, 0, 0, 0, f⟩, ns, upd_same, by rw [upd_ne npl.symm]; exact upd_same, Int.le_refl 0⟩ (fresh_back ex hp)
      have hb' := ex b o hb
      rw [upd_ne (ne_of_none hb' hp), upd_ne (ne_of_none hb' hl'), upd_ne (ne_of_none hb' hp)]
      exact hb'
def spDraw : Sp := fun vs H Q _ => ∃ (p : Addr) (m : Int), vs = [.ref p, .int m] ∧ PenOk H p ∧ 0 < m ∧ m < 1073741824 ∧ ∀ (d : Int) H', 0 ≤ d → d < m → PenOk H' p → But p H H' → Q (.int d) H'
theorem ok_law_draw (T : Tx K mg) : Has P w K mg base CX0 1 "_law_draw" ["pen", "many"] spDraw := by
  refine Has.of T.f_law_draw T.g_law_draw sc_law_draw bd_law_draw (fun vs H Q E h => ?_) (fun cdv A outer s H vs Q E hr h => ?_)
  · obtain ⟨p, m, rfl, _⟩ := h
    rfl
  · obtain ⟨p, m, rfl, ⟨P0, ns, hP⟩, hm0, hm1, k⟩ := h
    have hu := hu_of hr
    refine ⟨_, pss_cons (ps_dput hu (pv 0) pe_str (pe_op op_add (pe_dget hu (pv 0) pe_str (fun _ _ => rfl)) pe_int) rfl)
      (pss_cut (ps_if (PW.pt (pw_and (pt_cmpR op_eq (pe_dget hu (pv 0) pe_str (fun _ _ => rfl)) pe_int (nomark _)) (pw_and1 (pt_cmpR op_lt (pe_dget hu (pv 0) pe_str (fun _ _ => rfl)) (pe_callB call_len_seq rfl T.n_len PySem.boot_len (pa_cons (pe_dget hu (pv 0) pe_str (fun _ _ => rfl)) pa_nil)) (nomark _)))))
        (pss_cons (ps_set (i := 2) sc_law_draw.nd rfl (Or.inl rfl) (pe_ix ix_list (pe_dget hu (pv 0) pe_str (fun _ _ => rfl)) (pe_dget hu (pv 0) pe_str (fun _ _ => rfl)) (fun _ _ => rfl)))
        (pss_cons (ps_dput hu (pv 0) pe_str (pe_op op_add (pe_dget hu (pv 0) pe_str (fun _ _ => rfl)) pe_int) rfl)
        (pss_one (ps_if (pt_cmpR op_ge (pv 2) (pe_op op_pow pe_int pe_int) (nomark _)) (pss_one (ps_dput hu (pv 0) pe_str (pe_op op_sub (pv 2) (pe_op op_pow pe_int pe_int)) rfl))
          (pss_one (ps_dput hu (pv 0) pe_str (pe_op op_mod (pe_callTy call_int1 rfl T.n_int boot_int (pa_cons (pe_op op_add (pe_op op_mul (pe_dget hu (pv 0) pe_str (fun _ _ => rfl)) pe_int) (pv 2)) pa_nil)) pe_int) rfl)))))) pss_nil)
      (pss_cons (ps_if (pt_cmpR op_gt (pe_dget hu (pv 0) pe_str (fun _ _ => rfl)) pe_int (nomark _))
        (pss_cons (ps_set (i := 3) sc_law_draw.nd rfl (Or.inl rfl) (pe_op op_mod (pe_callTy call_int1 rfl T.n_int boot_int (pa_cons (pe_dget hu (pv 0) pe_str (fun _ _ => rfl)) pa_nil)) (pv 1)))
        (pss_cons (ps_dput hu (pv 0) pe_str (pe_op op_fdiv (pe_dget hu (pv 0) pe_str (fun _ _ => rfl)) (pv 1)) rfl)
        (pss_one (ps_ret (pv 3))))) pss_nil)
      (pss_cons (ps_set (i := 4) sc_law_draw.nd rfl (Or.inl rfl) (pe_op op_mod (pe_callTy call_int1 rfl T.n_int boot_int (pa_cons (pe_op op_add (pe_op op_add (pe_op op_mul (pe_dget hu (pv 0) pe_str (fun _ _ => rfl)) pe_int) (pe_op op_mul (pe_dget hu (pv 0) pe_str (fun _ _ => rfl)) pe_int)) pe_int) pa_nil)) pe_int))
      (pss_cons (ps_set (i := 4) sc_law_draw.nd rfl (Or.inl rfl) (pe_op op_mod (pe_callTy call_int1 rfl T.n_int boot_int (pa_cons (pe_op op_add (pe_op op_add (pe_op op_mul (pv 4) (pv 4)) (pe_op op_mul pe_int (pv 4))) (pe_dget hu (pv 0) pe_str (fun _ _ => rfl))) pa_nil)) pe_int))
      (pss_cons (ps_dput hu (pv 0) pe_str (pe_op op_mod (pe_callTy call_int1 rfl T.n_int boot_int (pa_cons (pe_op op_add (pe_op op_mul (pv 4) pe_int) pe_int) pa_nil)) pe_int) rfl)
      (pss_one (ps_ret (pe_op op_mod (pe_callTy call_int1 rfl T.n_int boot_int (pa_cons (pe_op op_fdiv (pv 4) pe_int) pa_nil)) (pv 1))))))))), ?_⟩
    refine s_dput (key := Sum.inr "count") (ev_ii (ev_dget (key := Sum.inr "count") (ev_var rfl) ev_c hP.at_ P0.kn) ev_c) (ev_var rfl) ev_c hP.at_ (by show 5 < 1000; decide) fun H1 e1 => ?_
    rw [Pen.pn]
    have hP1 := (hP.ex e1).put (P' := { P0 with n := P0.n + 1 }) rfl hP.i0
    have b1 : But p H (upd H1 p (.dK ({ P0 with n := P0.n + 1 } : Pen).kv)) := (But.of e1).put
    generalize hP1' : ({ P0 with n := P0.n + 1 } : Pen) = P1 at hP1 b1 ⊢
    clear hP1'
    generalize upd H1 p (.dK P1.kv) = H2 at hP1 b1 ⊢
    refine ⟨fun σ H' => ∃ (P2 : Pen) (v : Option V), σ = [some (.ref p), some (.int m), v, none, none] ∧ PenAt H' p P2 ns ∧ But p H H', ?_, ?_⟩
    · refine s_if (b := (P1.dg == 0) && decide (P1.i < ((ns.map V.int).length : Int))) (et_and (et_eqi (ev_dget (key := Sum.inr "digits") (ev_var rfl) ev_c hP1.at_ P1.kd) ev_c)
        (fun _ => et_ii (ev_dget (key := Sum.inr "at") (ev_var rfl) ev_c hP1.at_ P1.ki) (ev_len (ev_dget (key := Sum.inr "cells") (ev_var rfl) ev_c hP1.at_ P1.kc) (sq_of hP1.cs)))) (fun hb H3 e3 => ?_) (fun hb H3 e3 => ?_)
      · obtain ⟨hb1, hb2⟩ := He.ba hb
        have hi := of_decide_eq_true hb2
        have hi0 := hP1.i0
        obtain ⟨j, hj⟩ : ∃ j : Nat, P1.i = (j : Int) := ⟨P1.i.toNat, by omega⟩
        have hjl : j < (ns.map V.int).length := by omega
        have hjn : j < ns.length := by rw [List.length_map] at hjl; exact hjl
        have hget : (ns.map V.int)[j]? = some (.int ns[j]) := by
          rw [List.getElem?_map, List.getElem?_eq_getElem hjn]
          rfl
        have hP3 := hP1.ex e3
        refine s_asg (v := .int ns[j]) (ev_op (ev_dget (key := Sum.inr "cells") (ev_var rfl) ev_c hP3.at_ P1.kc) (ev_dget (key := Sum.inr "at") (ev_var rfl) ev_c hP3.at_ P1.ki) (rv_ixL (sq_of hP3.cs) (by rw [hj]; exact atI_nat hget))) fun H4 e4 => ?_
        have hP4 := hP3.ex e4
        refine s_dput (key := Sum.inr "at") (ev_ii (ev_dget (key := Sum.inr "at") (ev_var rfl) ev_c hP4.at_ P1.ki) ev_c) (ev_var rfl) ev_c hP4.at_ (by show 5 < 1000; decide) fun H5 e5 => ?_
        rw [Pen.pi]
        have hP5 := (hP4.ex e5).put (P' := { P1 with i := P1.i + 1 }) rfl (by show 0 ≤ P1.i + 1; omega)
        have b5 : But p H (upd H5 p (.dK ({ P1 with i := P1.i + 1 } : Pen).kv)) := (b1.trans (.of ((e3.trans e4).trans e5))).put
        generalize hP5' : ({ P1 with i := P1.i + 1 } : Pen) = P5 at hP5 b5 ⊢
        clear hP5'
        generalize upd H5 p (.dK P5.kv) = H6 at hP5 b5 ⊢
        refine s_if (et_ii (ev_var rfl) (ev_iC ev_c ev_c (show CPow 10 18 from ⟨by decide, by decide, by decide⟩))) (fun _ H7 e7 => ?_) (fun _ H7 e7 => ?_)
        · have hP7 := hP5.ex e7
          refine s_dput (key := Sum.inr "digits") (ev_ii (ev_var rfl) (ev_iC ev_c ev_c (show CPow 10 18 from ⟨by decide, by decide, by decide⟩))) (ev_var rfl) ev_c hP7.at_ (by show 5 < 1000; decide) fun H8 e8 => ?_
          rw [Pen.pd]
          exact ⟨_, _, rfl, (hP7.ex e8).put rfl hP5.i0, (b5.trans (.of (e7.trans e8))).put⟩
        · have hP7 := hP5.ex e7
          refine s_dput (key := Sum.inr "fold") (ev_iC (ev_int1 (ev_ii (ev_iC (ev_dget (key := Sum.inr "fold") (ev_var rfl) ev_c hP7.at_ P5.kf) ev_c (.inr ⟨by decide, by decide⟩)) (ev_var rfl))) ev_c (by decide)) (ev_var rfl) ev_c hP7.at_ (by show 5 < 1000; decide) fun H8 e8 => ?_
          rw [Pen.pf]
          exact ⟨_, _, rfl, (hP7.ex e8).put rfl hP5.i0, (b5.trans (.of (e7.trans e8))).put⟩
      · exact ⟨P1, none, rfl, hP1.ex e3, b1.trans (.of e3)⟩
    · rintro σ H3 ⟨P2, v, rfl, hP3, b3⟩
      refine s_if (b := decide (0 < P2.dg)) (et_ii (ev_dget (key := Sum.inr "digits") (ev_var rfl) ev_c hP3.at_ P2.kd) ev_c) (fun _ H4 e4 => ?_) (fun _ H4 e4 => ?_)
      · have hP4 := hP3.ex e4
        refine s_asg (ev_iC (ev_int1 (ev_dget (key := Sum.inr "digits") (ev_var rfl) ev_c hP4.at_ P2.kd)) (ev_var rfl) hm0) fun H5 e5 => ?_
        have hP5 := hP4.ex e5
        refine s_dput (key := Sum.inr "digits") (ev_iC (ev_dget (key := Sum.inr "digits") (ev_var rfl) ev_c hP5.at_ P2.kd) (ev_var rfl) (show CDiv P2.dg m from ⟨hm0, hm1⟩)) (ev_var rfl) ev_c hP5.at_ (by show 5 < 1000; decide) fun H6 e6 => ?_
        rw [Pen.pd]
        refine s_ret (ev_var rfl) fun H7 e7 => ?_
        have hP6 := (hP5.ex e6).put (P' := { P2 with dg := P2.dg / m }) rfl hP3.i0
        exact k _ H7 (Int.emod_nonneg _ (by omega)) (Int.emod_lt_of_pos _ hm0) ⟨_, ns, hP6.ex e7⟩ ((b3.trans (.of ((e4.trans e5).trans e6))).put.trans (.of e7))
      · have hP4 := hP3.ex e4
        refine s_asg (ev_iC (ev_int1 (ev_ii (ev_ii (ev_iC (ev_dget (key := Sum.inr "fold") (ev_var rfl) ev_c hP4.at_ P2.kf) ev_c (.inr ⟨by decide, by decide⟩)) (ev_iC (ev_dget (key := Sum.inr "count") (ev_var rfl) ev_c hP4.at_ P2.kn) ev_c (.inr ⟨by decide, by decide⟩))) ev_c)) ev_c (by decide)) fun H5 e5 => ?_
        have hP5 := hP4.ex e5
        have r0 := Int.emod_nonneg (P2.fo * 48271 + P2.n * 7919 + 13) (show (2147483647 : Int) ≠ 0 by decide)
        have r1 := Int.emod_lt_of_pos (P2.fo * 48271 + P2.n * 7919 + 13) (show (0 : Int) < 2147483647 by decide)
        generalize (P2.fo * 48271 + P2.n * 7919 + 13) % 2147483647 = bl at r0 r1 ⊢
        refine s_asg (ev_iC (ev_int1 (ev_ii (ev_ii (ev_iC (ev_var rfl) (ev_var rfl) (.inl ⟨by omega, by omega⟩)) (ev_iC ev_c (ev_var rfl) (.inl ⟨by decide, by decide⟩))) (ev_dget (key := Sum.inr "count") (ev_var rfl) ev_c hP5.at_ P2.kn))) ev_c (by decide)) fun H6 e6 => ?_
        have hP6 := hP5.ex e6
        generalize (bl * bl + 31 * bl + P2.n) % 2147483629 = bl2
        refine s_dput (key := Sum.inr "fold") (ev_iC (ev_int1 (ev_ii (ev_iC (ev_var rfl) ev_c (.inr ⟨by decide, by decide⟩)) ev_c)) ev_c (by decide)) (ev_var rfl) ev_c hP6.at_ (by show 5 < 1000; decide) fun H7 e7 => ?_
        rw [Pen.pf]
        have hP7 := (hP6.ex e7).put (P' := { P2 with fo := (bl2 * 16807 + 7) % 2147483647 }) rfl hP3.i0
        refine s_ret (ev_iC (ev_int1 (ev_iC (ev_var rfl) ev_c ⟨by decide, by decide⟩)) (ev_var rfl) hm0) fun H8 e8 => ?_
        exact k _ H8 (Int.emod_nonneg _ (by omega)) (Int.emod_lt_of_pos _ hm0) ⟨_, ns, hP7.ex e8⟩ ((b3.trans (.of (((e4.trans e5).trans e6).trans e7))).put.trans (.of e8))
end
end K91
set_option Elab.async false
set_option linter.all false
set_option maxRecDepth 100000
set_option maxHeartbeats 4000000
namespace K91
open PySem PySem.Spec PyProof.Rows L2 Evl G7
section
variable {P : Program} {w : World} {K : PySem.W.Frag} {mg : Str → Option Value} {base : Heap}
def spPick : Sp := fun vs H Q _ => ∃ (p l : Addr) (xs : List V), vs = [.ref p, .ref l] ∧ PenOk H p ∧ H l = some (.lst xs) ∧ xs ≠ [] ∧ xs.length < 1000000 ∧ ∀ v H', v ∈ xs → PenOk H' p → But p H H' → Q v H'
theorem penNe {H : Hp} {p l : Addr} {xs : List V} (h : PenOk H p) (hl : H l = some (.lst xs)) : l ≠ p := by
  obtain ⟨P, ns, h⟩ := h
  exact ne_of hl h.at_ (by intro z; cases z)
theorem ok_law_pick (T : Tx K mg) : Has P w K mg base CX0 2 "_law_pick" ["pen", "some"] spPick := by
  have G := ok_law_draw (P := P) (w := w) (base := base) T
  refine Has.of T.f_law_pick T.g_law_pick sc_law_pick bd_law_pick (fun vs H Q E h => ?_) (fun cdv A outer s H vs Q E hr h => ?_)
  · obtain ⟨p, l, xs, rfl, _⟩ := h
    rfl
  · obtain ⟨p, l, xs, rfl, hP, hl, hne, hlt, k⟩ := h
    refine ⟨_, pss_one (ps_ret (pe_ix ix_list (pv 1) (pe_hc G hr rfl pass0 (pa_cons (pv 0) (pa_cons (pe_callB call_len_seq rfl T.n_len PySem.boot_len (pa_cons (pv 1) pa_nil)) pa_nil))) (fun _ _ => rfl))), ?_⟩
    have h0 : 0 < xs.length := List.length_pos_iff.mpr hne
    refine ⟨.ref l, rfl, .ref p, rfl, .ref l, rfl, l, xs, rfl, .inl (SqL.of hl), p, (xs.length : Int), rfl, hP, by omega, by omega, fun d H' d0 d1 hP' b => ?_⟩
    have hl' := b _ _ hl (penNe hP hl)
    obtain ⟨j, rfl⟩ : ∃ j : Nat, d = (j : Int) := ⟨d.toNat, by omega⟩
    have hj : j < xs.length := by omega
    exact ⟨l, xs, (j : Int), xs[j], rfl, rfl, SqL.of hl', atI_nat (List.getElem?_eq_getElem hj), k _ H' (List.getElem_mem hj) hP' b⟩
def spWide : Sp := fun vs H Q _ => ∃ (p : Addr) (n : Nat), vs = [.ref p, .int (n : Int)] ∧ PenOk H p ∧ n ≤ 1000 ∧ ∀ (d : Int) H', 0 ≤ d → d < 10 ^ n → PenOk H' p → But p H H' → Q (.int d) H'
theorem ok_law_wide (T : Tx K mg) : Has P w K mg base CX0 2 "_law_wide" ["pen", "figures"] spWide := by
  have G := ok_law_draw (P := P) (w := w) (base := base) T
  refine Has.of T.f_law_wide T.g_law_wide sc_law_wide bd_law_wide (fun vs H Q E h => ?_) (fun cdv A outer s H vs Q E hr h => ?_)
  · obtain ⟨p, n, rfl, _⟩ := h
    rfl
  · obtain ⟨p, n, rfl, hP, hn, k⟩ := h
    refine ⟨_, pss_cons (ps_asg (pe_tup (pa_cons pe_int (pa_cons pe_int pa_nil))) (pg_tup (by rfl) (pgs_cons (pg_name (i := 2) sc_law_wide.nd rfl (Or.inl rfl)) (pgs_cons (pg_name (i := 3) sc_law_wide.nd rfl (Or.inl rfl)) pgs_nil))))
      (pss_cons (ps_for PassesOwn.never rfl (pi_range1 rfl T.n_range (pa_cons (pe_op op_fdiv (pe_op op_add (pv 1) pe_int) pe_int) pa_nil)) (pg_name (i := 4) sc_law_wide.nd rfl (Or.inl rfl))
        (pss_one (ps_set (i := 2) sc_law_wide.nd rfl (Or.inl rfl) (pe_op op_add (pe_op op_mul (pv 2) (pe_op op_pow pe_int pe_int)) (pe_hc G hr rfl pass0 (pa_cons (pv 0) (pa_cons (pe_op op_pow pe_int pe_int) pa_nil)))))))
      (pss_cons (ps_for PassesOwn.never rfl (pi_range1 rfl T.n_range (pa_cons (pv 1) pa_nil)) (pg_name (i := 4) sc_law_wide.nd rfl (Or.inl rfl))
        (pss_one (ps_set (i := 3) sc_law_wide.nd rfl (Or.inl rfl) (pe_op op_mul (pv 3) pe_int))))
      (pss_one (ps_ret (pe_op op_mod (pe_callTy call_int1 rfl T.n_int boot_int (pa_cons (pv 2) pa_nil)) (pv 3)))))), ?_⟩
    refine s_tup2 (ea_cons ev_c (ea_cons ev_c ea_nil)) fun H1 e1 => ?_
    refine s_forR1 (ea_cons (ev_iC (ev_ii (ev_var rfl) ev_c) ev_c ⟨by decide, by decide⟩) ea_nil) ⟨by omega, by omega⟩ (fun i σ H' => ∃ (f : Int) (v : Option V), σ = [some (.ref p), some (.int n), some (.int f), some (.int 1), v] ∧ PenOk H' p ∧ But p H H')
      (fun H2 e2 => ⟨0, none, rfl, hP.ex (e1.trans e2), .of (e1.trans e2)⟩) ?_ ?_
    · rintro i σ H' hi ⟨f, v, rfl, hP', b⟩
      refine ev_iC (ev_var rfl) (ev_iC ev_c ev_c (show CPow 10 6 from ⟨by decide, by decide, by decide⟩)) (.inr ⟨by decide, by decide⟩) H' (Ex.refl H') _ fun H2 e2 => ?_
      refine (ea_cons (ev_var rfl) (ea_cons (ev_iC ev_c ev_c (show CPow 10 6 from ⟨by decide, by decide, by decide⟩)) ea_nil)) H2 (Ex.refl H2) _ fun H3 e3 => ?_
      refine ⟨p, 10 ^ (6 : Int).toNat, rfl, (hP'.ex e2).ex e3, by decide, by decide, fun d H4 d0 d1 hP4 b4 => ⟨_, _, rfl, rfl, _, _, rfl, hP4, (b.trans (.of (e2.trans e3))).trans b4⟩⟩
    · rintro σ H' ⟨f, v, rfl, hP', b⟩
      refine s_forR1 (ea_cons (ev_var rfl) ea_nil) ⟨by omega, by omega⟩ (fun i σ H' => ∃ (v : Option V), σ = [some (.ref p), some (.int n), some (.int f), some (.int (10 ^ i)), v] ∧ PenOk H' p ∧ But p H H')
        (fun H2 e2 => ⟨v, rfl, hP'.ex e2, b.trans (.of e2)⟩) ?_ ?_
      · rintro i σ H2 hi ⟨v2, rfl, hP2, b2⟩
        refine s_asg (ev_iC (ev_var rfl) ev_c (.inr ⟨by decide, by decide⟩)) fun H3 e3 => ⟨some (.int (i : Int)), ?_, hP2.ex e3, b2.trans (.of e3)⟩
        rw [Int.pow_succ]
        rfl
      · rintro σ H2 ⟨v2, hσ, hP2, b2⟩
        rw [Int.toNat_natCast] at hσ
        subst hσ
        have hp : (0 : Int) < 10 ^ n := Int.pow_pos (by decide)
        refine s_ret (ev_iC (ev_int1 (ev_var rfl)) (ev_var rfl) (by exact hp)) fun H3 e3 => ?_
        exact k _ H3 (Int.emod_nonneg _ (by omega)) (Int.emod_lt_of_pos _ hp) (hP2.ex e3) (b2.trans (.of e3))
end
end K91
set_option Elab.async false
set_option linter.all false
set_option maxRecDepth 100000
set_option maxHeartbeats 4000000
namespace K91
open PySem PySem.Spec PyProof.Rows L2 Evl G7
section
variable {P : Program} {w : World} {K : PySem.W.Frag} {mg : Str → Option Value} {base : Heap}
def spIs (R : Hp → V → V → Prop) : Sp := fun vs H Q _ => ∃ t d : V, vs = [t, d] ∧ R H t d ∧ ∀ H', Ex H H' → Q (.bl true) H'
def Mono (R : Hp → V → V → Prop) : Prop := ∀ H H' x y, Ex H H' → R H x y → R H' x y
def R0 : Hp → V → V → Prop := fun _ t d => ∃ i : Int, t = .int i ∧ d = .int i
def Rt (R : Hp → V → V → Prop) : Hp → V → V → Prop := fun H t d => ∃ (a b : Addr) (xs ys : List V), t = .ref a ∧ d = .ref b ∧ H a = some (.tup xs) ∧ H b = some (.tup ys) ∧ xs.length = ys.length ∧ xs.length ≤ 1000 ∧ ∀ (i : Nat) x y, xs[i]? = some x → ys[i]? = some y → R H x y
theorem R0.mono : Mono R0 := fun _ _ _ _ _ h => h
theorem Rt.mono {R : Hp → V → V → Prop} (m : Mono R) : Mono (Rt R) := fun H H' x y e h => by
  obtain ⟨a, b, xs, ys, r1, r2, r3, r4, r5, r6, r7⟩ := h
  exact ⟨a, b, xs, ys, r1, r2, e _ _ r3, e _ _ r4, r5, r6, fun i x y h1 h2 => m _ _ _ _ e (r7 i x y h1 h2)⟩
theorem ok_law_is0 (T : Tx K mg) : Has P w K mg base CX0 1 "_law_is" ["told", "due"] (spIs R0) := by
  refine Has.of T.f_law_is T.g_law_is sc_law_is bd_law_is (fun vs H Q E h => ?_) (fun cdv A outer s H vs Q E hr h => ?_)
  · obtain ⟨t, d, rfl, _⟩ := h
    rfl
  · obtain ⟨t, d, rfl, ⟨i, rfl, rfl⟩, k⟩ := h
    refine ⟨_, (pss_cons (ps_if (pt_val (pe_callB call_isi rfl T.n_isinstance (by decide +kernel) (pa_cons (pv 1) (pa_cons (pe_ty rfl T.n_tuple boot_tuple) pa_nil))))
      pss_never pss_nil)
      (pss_cons (ps_if (pt_cmpR op_isN (pv 1) pe_non (nomark _))
      pss_never pss_nil)
      (pss_cons (ps_if (pt_cmpR op_isC (pv 1) pe_bl (nomark _))
      pss_never pss_nil)
      (pss_cons (ps_if (pt_cmpR op_isC (pv 1) pe_bl (nomark _))
      pss_never pss_nil)
      (pss_cons (ps_if (pt_val (pe_callB call_isi rfl T.n_isinstance (by decide +kernel) (pa_cons (pv 1) (pa_cons (pe_ty rfl T.n_str boot_str) pa_nil))))
      pss_never pss_nil)
      (pss_one (ps_ret (pe_and (pe_callB call_isi rfl T.n_isinstance (by decide +kernel) (pa_cons (pv 0) (pa_cons (pe_ty rfl T.n_int boot_int) pa_nil))) (pe_and (pe_not (pe_callB call_isi rfl T.n_isinstance (by decide +kernel) (pa_cons (pv 0) (pa_cons (pe_ty rfl T.n_bool boot_bool) pa_nil)))) (pe_one (pe_cmpR op_eq (pv 0) (pv 1) (nomark _)))))))))))), ?_⟩
    refine s_if (et_B (ev_isi (b := false) (ev_var rfl) (.base (.int i)) (by decide +kernel))) (fun z => nomatch z) fun _ H1 e1 => ?_
    refine s_if (et_isN (c := false) (ev_var rfl) ev_c rfl) (fun z => nomatch z) fun _ H2 e2 => ?_
    refine s_if (et_isC (c := false) (ev_var rfl) ev_c rfl) (fun z => nomatch z) fun _ H3 e3 => ?_
    refine s_if (et_isC (c := false) (ev_var rfl) ev_c rfl) (fun z => nomatch z) fun _ H4 e4 => ?_
    refine s_if (et_B (ev_isi (b := false) (ev_var rfl) (.base (.int i)) (by decide +kernel))) (fun z => nomatch z) fun _ H5 e5 => ?_
    refine s_ret (v := .bl true) (ev_is (ev_andV (ev_isi (b := true) (ev_var rfl) (.base (.int i)) (by decide +kernel)) fun _ => ev_andV (ev_notV (ev_isi (b := false) (ev_var rfl) (.base (.int i)) (by decide +kernel))) fun _ => ev_op (ev_var rfl) (ev_var rfl) (rv_eq rfl)) (by simp))
      fun H6 e6 => k H6 (((((e1.trans e2).trans e3).trans e4).trans e5).trans e6)
theorem ok_law_isT (T : Tx K mg) {n : Nat} {R : Hp → V → V → Prop} (m : Mono R) (G : Has P w K mg base CX0 n "_law_is" ["told", "due"] (spIs R)) : Has P w K mg base CX0 (n + 1) "_law_is" ["told", "due"] (spIs (Rt R)) := by
  refine Has.of T.f_law_is T.g_law_is sc_law_is bd_law_is (fun vs H Q E h => ?_) (fun cdv A outer s H vs Q E hr h => ?_)
  · obtain ⟨t, d, rfl, _⟩ := h
    rfl
  · obtain ⟨t, d, rfl, hR, k⟩ := h
    have G_law_is := G
    refine ⟨_, (pss_cons (ps_if (pt_val (pe_callB call_isi rfl T.n_isinstance (by decide +kernel) (pa_cons (pv 1) (pa_cons (pe_ty rfl T.n_tuple boot_tuple) pa_nil))))
      (pss_cons (ps_if (PW.pt (pw_or (pt_not (pt_val (pe_callB call_isi rfl T.n_isinstance (by decide +kernel) (pa_cons (pv 0) (pa_cons (pe_ty rfl T.n_tuple boot_tuple) pa_nil))))) (pw_or1 (pt_cmpR op_ne (pe_callB call_len_seq rfl T.n_len PySem.boot_len (pa_cons (pv 0) pa_nil)) (pe_callB call_len_seq rfl T.n_len PySem.boot_len (pa_cons (pv 1) pa_nil)) (nomark _)))))
      pss_never pss_nil)
      (pss_one (ps_ret (pe_cmpR (op_eqD hr.units) (pe_lc (own := [("at", 2)]) (g := gName 2) (by rfl) sc_law_is.nd (pi_range1 rfl T.n_range (pa_cons (pe_callB call_len_seq rfl T.n_len PySem.boot_len (pa_cons (pv 1) pa_nil)) pa_nil)) (blkOk_by (own := [("at", 2)]) (N := ["told", "due", "at"]) (sc := defScope s_law_is) (by decide +kernel)) (fun _ _ _ _ _ => (pg_name (i := 2) sc_law_is.nd rfl (Or.inl rfl))) (fun _ _ _ _ _ => pts_one (pt_not (pt_val (pe_hc G_law_is (hr.mono (by omega)) rfl pass0 (pa_cons (pe_ix (show IxR _ (rIxT K) from ix_tup) (pv 0) (pv 2) (fun _ _ => rfl)) (pa_cons (pe_ix (show IxR _ (rIxT K) from ix_tup) (pv 1) (pv 2) (fun _ _ => rfl)) pa_nil)))))) (fun _ _ _ _ _ => (pv 2))) (pe_lst pa_nil) (nomark _))))) pss_nil)
      pss_never), ?_⟩
    obtain ⟨a, b, xs, ys, rfl, rfl, ha, hb, hl, hz, hR⟩ := hR
    refine s_if (et_B (ev_isi (b := true) (ev_var rfl) (.base (.tup hb)) (by decide +kernel))) (fun _ H1 e1 => ?_) fun z => nomatch z
    have ha1 := e1 _ _ ha
    have hb1 := e1 _ _ hb
    refine s_if (b := false) (et_is (et_or (et_not (et_B (ev_isi (b := true) (ev_var rfl) (.base (.tup ha1)) (by decide +kernel)))) fun _ => et_nei (ev_lenT (ev_var rfl) (st_of ha1)) (ev_lenT (ev_var rfl) (st_of hb1))) (by rw [hl]; simp)) (fun z => nomatch z) fun _ H2 e2 => ?_
    have ha2 := e2 _ _ ha1
    have hb2 := e2 _ _ hb1
    have hR2 : ∀ (i : Nat) x y, xs[i]? = some x → ys[i]? = some y → R H2 x y := fun i x y h1 h2 => m _ _ _ _ (e1.trans e2) (hR i x y h1 h2)
    have hL := el_lcR1 (σ := start ["told", "due", "at"] [V.ref a, V.ref b]) (H := H2) (ta := tCons (tCB (rLenS K) (tCons (tVar 1) tNil)) tNil) (j := 2) (vs := [2]) (n := (ys.length : Int))
      (te := tVar 2) (t := tNot (tB (tCall (spIs R) [] E0 (tCons (tOp (rIxT K) (tVar 0) (tVar 2)) (tCons (tOp (rIxT K) (tVar 1) (tVar 2)) tNil)))))
      (fun _ => false) (fun _ => .non) (ea_cons (ev_lenT (ev_var rfl) (st_of hb2)) ea_nil) ⟨by omega, by omega⟩ (fun x => rfl) (fun i H3 e3 hi => ?_) (fun i H3 e3 hi z => nomatch z)
    · have hg : given (ys.length : Int).toNat (fun _ => false) (fun _ => V.non) = ([] : List Int).map V.int := given_none _ _
      rw [hg] at hL
      refine s_ret (v := .bl true) (ev_opLL hL (el_lst ea_nil (by decide)) fun p q H3 hp hq _ => rv_eqL (ns := []) (ms := []) (sq_of hp) (sq_of hq)) fun H3 e3 => k H3 ((e1.trans e2).trans e3)
    · have hi1 : i < ys.length := by omega
      have hi2 : i < xs.length := by omega
      refine et_not (a := true) (et_B (ev_hc (ea_cons (ev_op (ev_var rfl) (ev_var rfl) (rv_ixT (st_of (e3 _ _ ha2)) (atI_nat (List.getElem?_eq_getElem hi2)))) (ea_cons (ev_op (ev_var rfl) (ev_var rfl) (rv_ixT (st_of (e3 _ _ hb2)) (atI_nat (List.getElem?_eq_getElem hi1)))) ea_nil)) fun H4 e4 Q q => ?_))
      exact ⟨xs[i], ys[i], rfl, m _ _ _ _ (e3.trans e4) (hR2 i _ _ (List.getElem?_eq_getElem hi2) (List.getElem?_eq_getElem hi1)), q⟩
end
end K91
set_option Elab.async false
set_option linter.all false
set_option maxRecDepth 100000
set_option maxHeartbeats 4000000
namespace K91
open PySem PySem.Spec PyProof.Rows L2 Evl G7
section
variable {P : Program} {w : World} {K : PySem.W.Frag} {mg : Str → Option Value} {base : Heap} {eo : Addr × Obj} {d : Addr}
theorem Tx.k1 (T : Tx K mg) {x : Str} {b : Bool} (h : (x, b) ∈ cs1) : PySem.W.kitOne K (.ref (CB K)) (.ref (He.ga K x)) = some b := (kindB_ok (He.ba (He.ba T.ex).2).1).1 _ h
theorem Tx.k2 (T : Tx K mg) {x : Str} {b : Bool} (h : (x, b) ∈ cs2) : PySem.W.kitOne K (.ref (CB K)) (.ref (He.ga K x)) = some b := (kindB_ok (He.ba (He.ba T.ex).2).2).1 _ h
theorem Tx.kV (T : Tx K mg) : PySem.W.kitOne K (.ref (CB K)) (.type "ValueError") = some true := (kindB_ok (He.ba (He.ba T.ex).2).1).2
def spMK (a d : Addr) : Sp := fun vs H Q _ => ∃ ls, vs = [.ref a] ∧ H d = some (.xd ls) ∧ ∀ p H', H p = none → Ex H H' → H' p = some (.lst []) → Q (.ref p) H'
theorem ok_law_more_kinds (T : Tx K mg) (hh : Held K "BadNumber" d eo.2) : HasE P w K mg base 1 "_law_more_kinds" ["e"] (spMK eo.1 d) eo := by
  refine HasE.of T.f_law_more_kinds T.g_law_more_kinds sc_law_more_kinds bd_law_more_kinds (fun vs H Q E h => ?_) (fun cdv A outer s H vs Q hr hbare h => ?_)
  · obtain ⟨ls, rfl, _⟩ := h
    rfl
  · obtain ⟨ls, rfl, hd, k⟩ := h
    refine ⟨_, (pss_cons (ps_set (i := 1) sc_law_more_kinds.nd rfl (Or.inl rfl) (pe_lst pa_nil))
      (pss_cons (ps_if (pt_val (pe_callB (call_isH T.own hh List.mem_cons_self) rfl T.n_isinstance (by decide +kernel) (pa_cons (pv 0) (pa_cons (pe_glob (v := .ref (He.ga K "NoName")) rfl T.g_NoName rfl) pa_nil))))
      pss_never pss_nil)
      (pss_cons (ps_if (pt_val (pe_callB (call_isH T.own hh List.mem_cons_self) rfl T.n_isinstance (by decide +kernel) (pa_cons (pv 0) (pa_cons (pe_glob (v := .ref (He.ga K "TakenName")) rfl T.g_TakenName rfl) pa_nil))))
      pss_never pss_nil)
      (pss_cons (ps_if (pt_val (pe_callB (call_isH T.own hh List.mem_cons_self) rfl T.n_isinstance (by decide +kernel) (pa_cons (pv 0) (pa_cons (pe_glob (v := .ref (He.ga K "Unlike")) rfl T.g_Unlike rfl) pa_nil))))
      pss_never pss_nil)
      (pss_cons (ps_if (pt_val (pe_callB (call_isH T.own hh List.mem_cons_self) rfl T.n_isinstance (by decide +kernel) (pa_cons (pv 0) (pa_cons (pe_glob (v := .ref (He.ga K "NotThere")) rfl T.g_NotThere rfl) pa_nil))))
      pss_never pss_nil)
      (pss_cons (ps_if (pt_val (pe_callB (call_isH T.own hh List.mem_cons_self) rfl T.n_isinstance (by decide +kernel) (pa_cons (pv 0) (pa_cons (pe_glob (v := .ref (He.ga K "TooMany")) rfl T.g_TooMany rfl) pa_nil))))
      pss_never pss_nil)
      (pss_cons (ps_if (pt_val (pe_callB (call_isH T.own hh List.mem_cons_self) rfl T.n_isinstance (by decide +kernel) (pa_cons (pv 0) (pa_cons (pe_glob (v := .ref (He.ga K "NotKept")) rfl T.g_NotKept rfl) pa_nil))))
      pss_never pss_nil)
      (pss_cons (ps_if (pt_val (pe_callB (call_isH T.own hh List.mem_cons_self) rfl T.n_isinstance (by decide +kernel) (pa_cons (pv 0) (pa_cons (pe_glob (v := .ref (He.ga K "NothingToUndo")) rfl T.g_NothingToUndo rfl) pa_nil))))
      pss_never pss_nil)
      (pss_cons (ps_if (pt_val (pe_callB (call_isH T.own hh List.mem_cons_self) rfl T.n_isinstance (by decide +kernel) (pa_cons (pv 0) (pa_cons (pe_glob (v := .ref (He.ga K "NothingToRedo")) rfl T.g_NothingToRedo rfl) pa_nil))))
      pss_never pss_nil)
      (pss_one (ps_ret (pv 1)))))))))))), ?_⟩
    refine s_asgL (el_lst ea_nil (by decide)) fun p H1 hp e1 h1 => ?_
    refine s_if (et_B (ev_isH (b := false) (ev_var rfl) (e1 _ _ hd) (T.k2 (x := "NoName") (by decide)))) (fun z => nomatch z) fun _ H2 e2 => ?_
    have x2 := e1.trans e2
    refine s_if (et_B (ev_isH (b := false) (ev_var rfl) (x2 _ _ hd) (T.k2 (x := "TakenName") (by decide)))) (fun z => nomatch z) fun _ H3 e3 => ?_
    have x3 := x2.trans e3
    refine s_if (et_B (ev_isH (b := false) (ev_var rfl) (x3 _ _ hd) (T.k2 (x := "Unlike") (by decide)))) (fun z => nomatch z) fun _ H4 e4 => ?_
    have x4 := x3.trans e4
    refine s_if (et_B (ev_isH (b := false) (ev_var rfl) (x4 _ _ hd) (T.k2 (x := "NotThere") (by decide)))) (fun z => nomatch z) fun _ H5 e5 => ?_
    have x5 := x4.trans e5
    refine s_if (et_B (ev_isH (b := false) (ev_var rfl) (x5 _ _ hd) (T.k2 (x := "TooMany") (by decide)))) (fun z => nomatch z) fun _ H6 e6 => ?_
    have x6 := x5.trans e6
    refine s_if (et_B (ev_isH (b := false) (ev_var rfl) (x6 _ _ hd) (T.k2 (x := "NotKept") (by decide)))) (fun z => nomatch z) fun _ H7 e7 => ?_
    have x7 := x6.trans e7
    refine s_if (et_B (ev_isH (b := false) (ev_var rfl) (x7 _ _ hd) (T.k2 (x := "NothingToUndo") (by decide)))) (fun z => nomatch z) fun _ H8 e8 => ?_
    have x8 := x7.trans e8
    refine s_if (et_B (ev_isH (b := false) (ev_var rfl) (x8 _ _ hd) (T.k2 (x := "NothingToRedo") (by decide)))) (fun z => nomatch z) fun _ H9 e9 => ?_
    refine s_ret (ev_var rfl) fun H10 e10 => ?_
    exact k p H10 hp ((x8.trans e9).trans e10) (e10 _ _ (e9 _ _ (e8 _ _ (e7 _ _ (e6 _ _ (e5 _ _ (e4 _ _ (e3 _ _ (e2 _ _ h1)))))))))
def spLK (K : PySem.W.Frag) (a d : Addr) : Sp := fun vs H Q _ => ∃ ls y n z, vs = [.ref a] ∧ H d = some (.xd ls) ∧ ls.lookup ("what" : Str) = some y ∧ ls.lookup ("number" : Str) = some n ∧ ReprIs K H n z ∧
  ∀ t p H', Ex H H' → H' t = some (.tup [.str "number", y, .str z]) → H' p = some (.lst [.ref t]) → Q (.ref p) H'
theorem ok_law_kinds (T : Tx K mg) (hh : Held K "BadNumber" d eo.2) : HasE P w K mg base 2 "_law_kinds" ["e"] (spLK K eo.1 d) eo := by
  have G := ok_law_more_kinds (P := P) (w := w) (base := base) T hh
  refine HasE.of T.f_law_kinds T.g_law_kinds sc_law_kinds bd_law_kinds (fun vs H Q E h => ?_) (fun cdv A outer s H vs Q hr hbare h => ?_)
  · obtain ⟨ls, y, n, z, rfl, _⟩ := h
    rfl
  · obtain ⟨ls, y, n, z, rfl, hd, hy, hn, hz, k⟩ := h
    have hu : (A.deeper (envOfC "_law_kinds" (defScope s_law_kinds) s.heap.objs.size (He.ga K "_law_kinds") cdv)).units + 66 < cLine := by have := hr.un; omega
    refine ⟨_, (pss_cons (ps_set (i := 1) sc_law_kinds.nd rfl (Or.inl rfl) (pe_lst pa_nil))
      (pss_cons (ps_if (pt_val (pe_callB (call_isH T.own hh List.mem_cons_self) rfl T.n_isinstance (by decide +kernel) (pa_cons (pv 0) (pa_cons (pe_glob (v := .ref (He.ga K "BadNumber")) rfl T.g_BadNumber rfl) pa_nil))))
      (pss_one (ps_expr (pe_bm PySem.F.plainAttrs_list PySem.F.slot_list_append PySem.F.type_list_append mt_append (pv 1) (pa_cons (pe_tup (pa_cons pe_str (pa_cons (pe_fldH T.own hh List.mem_cons_self (by simp) (pv 0)) (pa_cons (pe_callB (call_reprV hbare hu) rfl T.n_repr (by decide +kernel) (pa_cons (pe_fldH T.own hh List.mem_cons_self (by simp) (pv 0)) pa_nil)) pa_nil)))) pa_nil)))) pss_nil)
      (pss_cons (ps_if (pt_val (pe_callB (call_isH T.own hh List.mem_cons_self) rfl T.n_isinstance (by decide +kernel) (pa_cons (pv 0) (pa_cons (pe_glob (v := .ref (He.ga K "BadRow")) rfl T.g_BadRow rfl) pa_nil))))
      pss_never pss_nil)
      (pss_cons (ps_if (pt_val (pe_callB (call_isH T.own hh List.mem_cons_self) rfl T.n_isinstance (by decide +kernel) (pa_cons (pv 0) (pa_cons (pe_glob (v := .ref (He.ga K "BadTable")) rfl T.g_BadTable rfl) pa_nil))))
      pss_never pss_nil)
      (pss_cons (ps_if (pt_val (pe_callB (call_isH T.own hh List.mem_cons_self) rfl T.n_isinstance (by decide +kernel) (pa_cons (pv 0) (pa_cons (pe_glob (v := .ref (He.ga K "BadBase")) rfl T.g_BadBase rfl) pa_nil))))
      pss_never pss_nil)
      (pss_cons (ps_if (pt_val (pe_callB (call_isH T.own hh List.mem_cons_self) rfl T.n_isinstance (by decide +kernel) (pa_cons (pv 0) (pa_cons (pe_glob (v := .ref (He.ga K "BadBook")) rfl T.g_BadBook rfl) pa_nil))))
      pss_never pss_nil)
      (pss_cons (ps_if (pt_val (pe_callB (call_isH T.own hh List.mem_cons_self) rfl T.n_isinstance (by decide +kernel) (pa_cons (pv 0) (pa_cons (pe_glob (v := .ref (He.ga K "BadName")) rfl T.g_BadName rfl) pa_nil))))
      pss_never pss_nil)
      (pss_cons (ps_if (pt_val (pe_callB (call_isH T.own hh List.mem_cons_self) rfl T.n_isinstance (by decide +kernel) (pa_cons (pv 0) (pa_cons (pe_glob (v := .ref (He.ga K "BadText")) rfl T.g_BadText rfl) pa_nil))))
      pss_never pss_nil)
      (pss_cons (ps_if (pt_val (pe_callB (call_isH T.own hh List.mem_cons_self) rfl T.n_isinstance (by decide +kernel) (pa_cons (pv 0) (pa_cons (pe_glob (v := .ref (He.ga K "NoPlace")) rfl T.g_NoPlace rfl) pa_nil))))
      pss_never pss_nil)
      (pss_one (ps_ret (pe_op op_cat (pv 1) (pe_hcE G (hr.mono (by decide)) hbare List.mem_cons_self rfl (pa_cons (pv 0) pa_nil)))))))))))))), ?_⟩
    refine s_asgL (el_lst ea_nil (by decide)) fun p H1 hp e1 h1 => ?_
    refine s_if (et_B (ev_isH (b := true) (ev_var rfl) (e1 _ _ hd) (T.k1 (x := "BadNumber") (by decide)))) (fun _ H2 e2 => ?_) (fun z => nomatch z)
    have x2 := e1.trans e2
    refine s_appU (e2 _ _ h1) (ev_var rfl) (eu_tup (ea_cons ev_c (ea_cons (ev_fldH (ev_var rfl) (x2 _ _ hd) hy) (ea_cons (ev_repr (ev_fldH (ev_var rfl) (x2 _ _ hd) hn) (hz.ex x2)) ea_nil))) (by show 3 ≤ 100000; decide)) (by decide) fun t H3 ht e3 h3 => ?_
    have np : ∀ b o, H b = some o → b ≠ p := fun b o hb => ne_of_none hb hp
    have y3 : Ex H (upd H3 p (.lst ([] ++ [.ref t]))) := fun b o hb => by
      rw [upd_ne (np b o hb)]
      exact e3 _ _ (x2 _ _ hb)
    have tp : t ≠ p := fun z => by
      rw [z, e2 _ _ h1] at ht
      cases ht
    have t3 : upd H3 p (.lst ([] ++ [.ref t])) t = some (.tup [.str "number", y, .str z]) := by
      rw [upd_ne tp]
      exact h3
    have p3 : upd H3 p (.lst ([] ++ [.ref t])) p = some (.lst [.ref t]) := upd_same
    generalize upd H3 p (.lst ([] ++ [.ref t])) = H4 at y3 t3 p3 ⊢
    refine s_if (et_B (ev_isH (b := false) (ev_var rfl) (y3 _ _ hd) (T.k1 (x := "BadRow") (by decide)))) (fun z => nomatch z) fun _ H5 e5 => ?_
    have x5 := y3.trans e5
    refine s_if (et_B (ev_isH (b := false) (ev_var rfl) (x5 _ _ hd) (T.k1 (x := "BadTable") (by decide)))) (fun z => nomatch z) fun _ H6 e6 => ?_
    have x6 := x5.trans e6
    refine s_if (et_B (ev_isH (b := false) (ev_var rfl) (x6 _ _ hd) (T.k1 (x := "BadBase") (by decide)))) (fun z => nomatch z) fun _ H7 e7 => ?_
    have x7 := x6.trans e7
    refine s_if (et_B (ev_isH (b := false) (ev_var rfl) (x7 _ _ hd) (T.k1 (x := "BadBook") (by decide)))) (fun z => nomatch z) fun _ H8 e8 => ?_
    have x8 := x7.trans e8
    refine s_if (et_B (ev_isH (b := false) (ev_var rfl) (x8 _ _ hd) (T.k1 (x := "BadName") (by decide)))) (fun z => nomatch z) fun _ H9 e9 => ?_
    have x9 := x8.trans e9
    refine s_if (et_B (ev_isH (b := false) (ev_var rfl) (x9 _ _ hd) (T.k1 (x := "BadText") (by decide)))) (fun z => nomatch z) fun _ H10 e10 => ?_
    have x10 := x9.trans e10
    refine s_if (et_B (ev_isH (b := false) (ev_var rfl) (x10 _ _ hd) (T.k1 (x := "NoPlace") (by decide)))) (fun z => nomatch z) fun _ H11 e11 => ?_
    have x11 := x10.trans e11
    have f11 : Ex H4 H11 := (((((e5.trans e6).trans e7).trans e8).trans e9).trans e10).trans e11
    refine ⟨.ref p, rfl, .ref eo.1, rfl, ls, rfl, x11 _ _ hd, fun q H12 hq e12 h12 => ?_⟩
    have p12 := e12 _ _ (f11 _ _ p3)
    refine ⟨p, q, [.ref t], [], rfl, rfl, p12, h12, by show 1 ≤ sizeLine; decide, fun r hr' => ?_⟩
    have t12 := e12 _ _ (f11 _ _ t3)
    refine k t r _ ((x11.trans e12).trans (Ex.new hr')) ?_ upd_same
    rw [upd_ne (ne_of_none t12 hr')]
    exact t12
end
end K91
set_option Elab.async false
set_option linter.all false
set_option maxRecDepth 100000
set_option maxHeartbeats 4000000
namespace K91
open PySem PySem.Spec PyProof.Rows L2 L2H Evl G7 LamX
theorem Takes.len {X : Cx} {W : WX} (t : Takes X W) : Takes X (fun c d σ H => σ.length = X.N.length → W c d σ H) := by
  rintro u s' ⟨a, B, sI, pins, σ, H, cls, d, e, I, nb, up, sky, na, os, ag, q⟩
  exact t u s' ⟨a, B, sI, pins, σ, H, cls, d, e, I, nb, up, sky, na, os, ag, q I.len⟩
section
variable {P : Program} {w : World} {K : PySem.W.Frag} {mg : Str → Option Value} {base : Heap}
theorem Tx.exm (T : Tx K mg) : PySem.W.exmOne K (.ref (CB K)) (.ref (He.ga K "FigureError")) = some true := He.exm_ok (T.fact 60 (f := .exm "BadNumber" "FigureError" true))
theorem boot_VE : bootBuiltins "ValueError" = some (.type "ValueError") := by decide +kernel
/-- BadNumber(y, n) is raised: what is told of it goes to Q -/
def ECF (K : PySem.W.Frag) (y n : V) (z : Str) (Q : VK) : XK := fun cls d H' => cls = .ref (CB K) ∧ ∃ dd ls, d = some dd ∧ H' dd = some (.xd ls) ∧ ls.lookup ("what" : Str) = some y ∧ ls.lookup ("number" : Str) = some n ∧ ReprIs K H' n z ∧
  ∀ t H2, Ex H' H2 → H2 t = some (.tup [.str "number", y, .str z]) → Q (.ref t) H2
/-- _law_fault of a call that may raise BadNumber(y, n): None, or what is told of the error -/
def TTF (K : PySem.W.Frag) (y n : V) (z : Str) : (XK → Hp → VK → Prop) → Hp → VK → Prop := fun tl H Q => tl (ECF K y n z Q) H (fun _ H2 => Q .non H2)
theorem law_fault_gives {X : Cx} {q : Str} {g : Addr} {cdg : Value} {y n : V} {z : Str} (T : Tx X.K X.mg) (hr : Room 5 X.A) (hbare : Bare X.A) :
    GivesTo X ["call", "found", "e"] "_law_fault" (defScope s_law_fault) g cdg (defBody s_law_fault) "call" q (TTF X.K y n z) := by
  intro f c' s H Q tl act hc h
  have hR : Room 4 (X.A.deeper (envOfC "_law_fault" (defScope s_law_fault) s.heap.objs.size g cdg)) := hr.deeper _
  refine ⟨_, pss_cons (ps_set (i := 1) sc_law_fault.nd rfl (Or.inl rfl) pe_non)
    (pss_cons (ps_try_as (X := (cxOf C8.CX0 X.prog X.w X.K X.mg X.base ["call", "found", "e"] "_law_fault" (defScope s_law_fault) g cdg X.A X.stack s H C8.E0).nox) (i := 2) (c := .ref (He.ga X.K "FigureError"))
        (tb := fun W D σ H' => ∃ Ech : XK, (∀ cls d σ' H', σ'.length = 3 → Ech cls d H' → W cls d σ' H') ∧ σ[0]? = some (some (.ref f)) ∧ H' c' = some (CodeO c' q) ∧ tl Ech H' (fun _ H2 => D.nx σ H2))
        (ts := fun a cls d => tGiven cls (CB X.K) d fun dd => tSeq (tAsg (tCall (spLK X.K a dd) [] E0 (tCons (tVar 2) tNil)) (gName 1))
          (tAsg (tIf (tAnd (tTest (tOp rEq (tCB (rLenS X.K) (tCons (tVar 1) tNil)) (tC (.int 1)))) (tB (tCB (rIsH X.K "BadNumber" a dd) (tCons (tVar 2) (tCons (tC (.ty "ValueError")) tNil)))))
            (tOp (rIxL X.K) (tVar 1) (tC (.int 0))) (tTup (tCons (tC (.str "several")) (tCons (tCB (rLenS X.K) (tCons (tVar 1) tNil)) tNil)))) (gName 1)))
        rfl rfl sc_law_fault.nd rfl rfl ⟨rfl, by decide, .inl T.g_FigureError⟩ L2.takes0 (fun W pn xe tk _ => ?_) (fun a oe cls d pn hzc hf => pss_given fun dd e1 e2 => ?_))
    (pss_one (ps_ret (pv 1)))), ?_⟩
  · refine ⟨fun pins s' σ H' D I h' => ?_⟩
    obtain ⟨Ech, hW, h1, h2, h3⟩ := h'
    exact (pss_one (ps_expr (act _ pn xe Ech _ _ (Takes.len tk) fun cls d σ' H' hE hl => hW cls d σ' H' hl hE))).run pins s' σ H' D I ⟨h1, h2, h3⟩
  · subst e1 e2
    have hh : Held X.K "BadNumber" dd (a, oe).2 := ⟨hzc, hf⟩
    have hR2 : RoomH 2 (X.A.deeper (envOfC "_law_fault" (defScope s_law_fault) s.heap.objs.size g cdg)) := (roomH_of hR).mono (by decide)
    have G := ok_law_kinds (P := X.prog) (w := X.w) (base := X.base) T hh
    refine pss_cons (ps_set (i := 1) sc_law_fault.nd rfl (Or.inl rfl) (pe_hcE (eo := (a, oe)) G ⟨hR2.dp, hR2.un⟩ hbare List.mem_cons_self rfl (pa_cons (pv 2) pa_nil)))
      (pss_one (ps_set (i := 1) sc_law_fault.nd rfl (Or.inl rfl) (pe_ifExp (PW.pt (pw_and (pt_cmpR op_eq (pe_callB call_len_seq rfl T.n_len PySem.boot_len (pa_cons (pv 1) pa_nil)) pe_int (nomark _))
        (pw_and1 (pt_val (pe_callB (call_isH (eo := (a, oe)) T.own hh List.mem_cons_self) rfl T.n_isinstance boot_isi (pa_cons (pv 2) (pa_cons (pe_ty rfl T.n_ValueError boot_VE) pa_nil)))))))
        (pe_ix ix_list (pv 1) pe_int (fun _ _ => rfl)) (pe_tup (pa_cons pe_str (pa_cons (pe_callB call_len_seq rfl T.n_len PySem.boot_len (pa_cons (pv 1) pa_nil)) pa_nil))))))
  · refine ⟨ECF X.K y n z Q, fun cls d σ' H' hl hE => ?_, rfl, hc, ?_⟩
    rotate_left
    · have e : (fun (_ : V) H2 => tRet (tVar 1) { nx := fun _ H' => Q .non H', rt := Q } ([some (V.ref f), some V.non, none] : L2.St) H2) = fun _ H2 => Q .non H2 := by
        funext _ H2
        refine propext ⟨fun ⟨v, hv, hq⟩ => ?_, fun hq => ⟨.non, rfl, hq⟩⟩
        obtain rfl : V.non = v := Option.some.inj (Option.some.inj hv)
        exact hq
      show tl _ H (fun (_ : V) H2 => tRet (tVar 1) { nx := fun _ H' => Q .non H', rt := Q } ([some (V.ref f), some V.non, none] : L2.St) H2)
      rw [e]
      exact h
    · obtain ⟨rfl, dd, ls, rfl, hd, hy, hn, hz, k⟩ := hE
      obtain ⟨s0, s1, s2, rfl⟩ : ∃ s0 s1 s2, σ' = [s0, s1, s2] := by
        match σ', hl with
        | [s0, s1, s2], _ => exact ⟨s0, s1, s2, rfl⟩
      refine ⟨true, T.exm, fun _ a ha => ⟨dd, rfl, rfl, ?_⟩, fun z => Bool.noConfusion z⟩
      refine ⟨.ref a, rfl, ls, y, n, z, rfl, hd, hy, hn, hz, fun t p H2 e2 ht hp => ?_⟩
      refine s_asg (v := .ref t) (ev_if (b := true) (et_and (a := true) (b := true) (et_is (et_eqi (ev_len (ev_var rfl) (sq_of hp)) ev_c) rfl) fun _ => et_B (ev_isHT (ev_var rfl) (e2 _ _ hd) T.kV))
        (fun _ => ev_op (ev_var rfl) ev_c (rv_ixL (sq_of hp) (atI_nat (j := 0) rfl))) fun z => nomatch z) fun H3 e3 => ?_
      exact ⟨.ref t, rfl, k t H3 (e2.trans e3) (e3 _ _ ht)⟩
end
end K91
set_option Elab.async false
set_option linter.all false
set_option maxRecDepth 100000
set_option maxHeartbeats 4000000
namespace K91
open PySem PySem.Spec PyProof.Rows L2 L2H Evl G7 LamX
/-- the lambda's name -/
def qLam : Str := (envOfC "_law_morse_fault" (defScope s_law_morse_fault) 0 0 .none).qual ++ "<lambda>"
section
variable {P : Program} {w : World} {K : PySem.W.Frag} {mg : Str → Option Value} {base : Heap}
abbrev tbs (K : PySem.W.Frag) : List (Addr × Str) := [((He.cT K ("_law_morse_fault", none)).2, qLam)]
def spMF (K : PySem.W.Frag) : Sp := fun vs H Q _ => ∃ (n : V) (z : Str), vs = [n] ∧ Tabs (tbs K) H ∧ (∀ H1, ExtN H H1 → Btw K H1 n 0 (10 ^ 40) false ∧ ReprIs K H1 n z) ∧
  ∀ t H', ExtN H H' → H' t = some (.tup [.str "number", .str "at", .str z]) → Q (.ref t) H'
theorem ok_law_morse_fault (T : Tx K mg) (TB : TabB base mg (He.cT K ("_law_morse_fault", none)).1 (He.cT K ("_law_morse_fault", none)).2) : HasG P w K mg base 8 "_law_morse_fault" ["at"] (spMF K) := by
  have G := ok_morse_item (P := P) (w := w) (base := base) T
  obtain ⟨fdF, FF⟩ := T.f_law_fault
  have bF := FF.bindsN bd_law_fault
  have kF := FF.kp
  obtain ⟨oc, od, dV, kV, doc, pm, an, cdF, ct, osl, rfl, lk, hcd, _, _⟩ := FF.ex
  refine HasG.of T.f_law_morse_fault T.g_law_morse_fault sc_law_morse_fault bd_law_morse_fault (fun vs H Q E h => ?_) (fun cdv A outer s H vs Q hcode hr hbare h => ?_)
  · obtain ⟨n, z, rfl, _⟩ := h
    rfl
  · obtain ⟨n, z, rfl, hT, hn, k⟩ := h
    subst hcode
    refine ⟨_, pss_one (ps_ret (pe_lamcall (T := tbs K) (TT := TTF K (.str "at") n z) (k := 5) (Ng := ["call", "found", "e"]) (t := fun E => tCallS (spMorse K) (fun _ => E) (tCons (tVar 0) tNil)) rfl T.g_law_fault kF lk hcd bF sc_law_fault rfl (.inl rfl)
      (law_fault_gives T (hr.mono (by decide)) hbare) TB rfl List.mem_cons_self (fun p hp _ => ?_) hr (lamS_by (by show lamSB (defScope s_law_morse_fault) _ = true; decide +kernel)) rfl (fun _ _ _ _ _ => rfl)
      (fun A2 outer2 s2 H2 E f c' hr2 => pe_hcS G hr2 rfl (fun σ => passAt (takes_of (E := E) rfl rfl rfl rfl) σ) (pa_cons (pv 0) pa_nil)))), ?_⟩
    · rw [List.mem_singleton.mp hp]
      rfl
    · refine ⟨hT, fun H1 e1 t1 => ?_⟩
      obtain ⟨hb, hz⟩ := hn H1 e1
      refine ⟨n, rfl, n, false, rfl, hb, fun z => (nomatch z), fun _ d H2 hd e2 h2 => ?_⟩
      exact ⟨rfl, d, _, rfl, h2, rfl, rfl, hz.ex e2, fun t H3 e3 ht => k t H3 (e1.trans (ExtN.of fun b o q => e3 _ _ (e2 _ _ q))) ht⟩
end
end K91
set_option Elab.async false
set_option linter.all false
set_option maxRecDepth 100000
set_option maxHeartbeats 4000000
namespace K91
open PySem PySem.Spec PyProof.Rows L2 Evl G7
theorem cut_to {xs : List V} {j : Int} (h0 : 0 ≤ j) (h1 : j ≤ xs.length) : cutV xs none (some j) = xs.take j.toNat := by
  obtain ⟨n, rfl⟩ : ∃ n : Nat, j = (n : Int) := ⟨j.toNat, by omega⟩
  unfold cutV
  rw [HT.sIx_none, HT.sIx_nat, Int.toNat_natCast, List.drop_zero, Nat.sub_zero, Nat.min_eq_left (by omega)]
section
variable {P : Program} {w : World} {K : PySem.W.Frag} {mg : Str → Option Value} {base : Heap}
def spRight : Sp := fun vs H Q _ => ∃ p : Addr, vs = [.ref p] ∧ PenOk H p ∧ ∀ H', PenOk H' p → But p H H' → Q (.bl true) H'
theorem morse_at {σ : L2.St} {H : Hp} {te : TE} {i : Int} (h : Ev te σ H (.int i)) (h0 : 0 ≤ i) (h1 : i ≤ 10 ^ 40) : Ev (tCall (spMorse K) [] E0 (tCons te tNil)) σ H (.int (mz i)) :=
  ev_hc (ea_cons h ea_nil) fun H1 e Q q => ⟨.int i, true, rfl, .yes h0 h1, fun _ j hj H' e' => by
    obtain rfl := V.int.inj hj
    exact q H' e', fun z => nomatch z⟩
theorem aw_at {σ : L2.St} {H : Hp} {te : TE} {i : Int} (h : Ev te σ H (.int i)) (h0 : 0 ≤ i) (h1 : i < 2 ^ 200) : Ev (tCall spMz [] E0 (tCons te tNil)) σ H (.int (mz i)) :=
  ev_hc (ea_cons h ea_nil) fun H6 e6 Q q => ⟨i, rfl, h0, h1, q⟩
theorem ok_law_right (T : Tx K mg) : Has P w K mg base CX0 6 "_law_right" ["pen"] spRight := by
  have G_law_draw := ok_law_draw (P := P) (w := w) (base := base) T
  have G_law_pick := ok_law_pick (P := P) (w := w) (base := base) T
  have G_law_wide := ok_law_wide (P := P) (w := w) (base := base) T
  have G_law_is := ok_law_is0 (P := P) (w := w) (base := base) T
  have G_morse_item := ok_morse_item (P := P) (w := w) (base := base) T
  have G_law_aw_morse := ok_aw_morse (P := P) (w := w) (base := base) T
  refine Has.of T.f_law_right T.g_law_right sc_law_right bd_law_right (fun vs H Q E h => ?_) (fun cdv A outer s H vs Q E hr h => ?_)
  · obtain ⟨p, rfl, _⟩ := h
    rfl
  · obtain ⟨p, rfl, hP, k⟩ := h
    refine ⟨_, (pss_cons (ps_set (i := 1) sc_law_right.nd rfl (Or.inl rfl) (pe_hc G_law_pick (hr.mono (by omega)) rfl pass0 (pa_cons (pv 0) (pa_cons (pe_lst (pa_cons (pe_hc G_law_draw (hr.mono (by omega)) rfl pass0 (pa_cons (pv 0) (pa_cons pe_int pa_nil))) (pa_cons (pe_hc G_law_wide (hr.mono (by omega)) rfl pass0 (pa_cons (pv 0) (pa_cons pe_int pa_nil))) (pa_cons (pe_op op_sub (pe_op op_pow pe_int pe_int) (pe_hc G_law_draw (hr.mono (by omega)) rfl pass0 (pa_cons (pv 0) (pa_cons pe_int pa_nil)))) pa_nil)))) pa_nil))))
      (pss_cons (ps_if (PW.pt (pw_or (pt_not (pt_val (pe_hc G_law_is (hr.mono (by omega)) rfl pass0 (pa_cons (pe_hc G_morse_item (hr.mono (by omega)) rfl passX0 (pa_cons (pv 1) pa_nil)) (pa_cons (pe_hc G_law_aw_morse (hr.mono (by omega)) rfl pass0 (pa_cons (pv 1) pa_nil)) pa_nil))))) (pw_or1 (pt_cmpR op_ne (pe_hc G_morse_item (hr.mono (by omega)) rfl passX0 (pa_cons (pe_op op_fdiv (pv 1) pe_int) pa_nil)) (pe_ifExp (pt_cmpR op_eq (pe_op op_mod (pe_callTy call_int1 rfl T.n_int (by decide +kernel) (pa_cons (pv 1) pa_nil)) pe_int) pe_int (nomark _)) (pe_hc G_morse_item (hr.mono (by omega)) rfl passX0 (pa_cons (pv 1) pa_nil)) (pe_op op_sub pe_int (pe_hc G_morse_item (hr.mono (by omega)) rfl passX0 (pa_cons (pv 1) pa_nil)))) (nomark _)))))
      pss_never pss_nil)
      (pss_cons (ps_asg (pe_tup (pa_cons (pe_hc G_law_draw (hr.mono (by omega)) rfl pass0 (pa_cons (pv 0) (pa_cons (pe_op op_pow pe_int pe_int) pa_nil))) (pa_cons (pe_op op_add pe_int (pe_hc G_law_draw (hr.mono (by omega)) rfl pass0 (pa_cons (pv 0) (pa_cons pe_int pa_nil)))) pa_nil))) (pg_tup (by rfl) (pgs_cons (pg_name (i := 2) sc_law_right.nd rfl (Or.inr rfl)) (pgs_cons (pg_name (i := 3) sc_law_right.nd rfl (Or.inl rfl)) pgs_nil))))
      (pss_cons (ps_setLc (i := 4) (own := [("k", 5)]) (g := gName 5) (by rfl) sc_law_right.nd rfl rfl (sw_true rfl rfl rfl (by decide +kernel)) (pi_range1 rfl T.n_range (pa_cons (pe_op op_mul pe_int (pv 3)) pa_nil)) (blkOk_by (own := [("k", 5)]) (N := ["pen", "at", "start", "long", "some", "k"]) (sc := defScope s_law_right) (by decide +kernel)) (fun _ _ _ _ _ => (pg_name (i := 5) sc_law_right.nd rfl (Or.inl rfl))) (fun _ _ _ _ _ => pts_nil) (fun _ _ _ _ _ => (pe_hc G_morse_item (hr.mono (by omega)) rfl passX0 (pa_cons (pe_op op_add (pv 2) (pv 5)) pa_nil))))
      (pss_one (ps_ret (pe_cmpR (op_neD hr.units) (pe_op op_rep (pe_slice sl_list (pv 4) po_none (po_some (pv 3))) pe_int) (pv 4) (nomark _)))))))), ?_⟩
    refine ⟨.ref p, rfl, .ref p, rfl, p, 200, rfl, hP, by decide, by decide, fun d1 H1 l1 u1 hP1 b1 => ?_⟩
    refine ⟨.ref p, rfl, p, 30, rfl, hP1, by decide, fun d2 H2 l2 u2 hP2 b2 => ?_⟩
    refine ⟨10, 40, rfl, rfl, ⟨by decide, by decide, by decide⟩, .ref p, rfl, p, 10, rfl, hP2, by decide, by decide, fun d3 H3 l3 u3 hP3 b3 => ⟨_, _, rfl, rfl, ?_⟩⟩
    refine ⟨by show 3 ≤ sizeLine; decide, fun l hl => ⟨p, l, _, rfl, hP3.ex (Ex.new hl), upd_same, by simp, by show 3 < 1000000; decide, fun v H4 hv hP4 b4 => ?_⟩⟩
    have bb : But p H H4 := ((b1.trans b2).trans b3).trans ((But.of (Ex.new hl)).trans b4)
    obtain ⟨i, rfl, i0, i1⟩ : ∃ i : Int, v = .int i ∧ 0 ≤ i ∧ i ≤ 10 ^ 40 := by
      have c : (10 : Int) ^ 30 ≤ 10 ^ 40 := by decide
      have c1 : (200 : Int) ≤ 10 ^ 40 := by decide
      have e : (10 : Int) ^ (40 : Int).toNat = 10 ^ 40 := rfl
      rw [e] at hv
      generalize (10 : Int) ^ 40 = t at hv c c1 ⊢
      have u2' : d2 < 10 ^ 30 := u2
      generalize (10 : Int) ^ 30 = t2 at u2' c
      rcases List.mem_cons.mp hv with rfl | hv
      · exact ⟨_, rfl, l1, by omega⟩
      rcases List.mem_cons.mp hv with rfl | hv
      · exact ⟨_, rfl, l2, by omega⟩
      obtain rfl := List.mem_singleton.mp hv
      exact ⟨_, rfl, by omega, by omega⟩
    clear b1 b2 b3 b4 hl hv hP hP1 hP2 hP3 l1 u1 l2 u2 l3 u3
    have hc : (10 : Int) ^ 40 < 2 ^ 200 := by decide
    have ilt : i < 2 ^ 200 := Int.lt_of_le_of_lt i1 hc
    have i2 : 0 ≤ i / 2 ∧ i / 2 ≤ 10 ^ 40 := by
      generalize (10 : Int) ^ 40 = t at i1
      omega
    have z : mz (i / 2) = if i % 2 = 0 then mz i else 1 - mz i := mz_half i0 ilt
    refine s_if (b := false) (et_is (et_or (et_not (et_B (b := true) (ev_hc (ea_cons (morse_at (ev_var rfl) i0 i1) (ea_cons (aw_at (ev_var rfl) i0 ilt) ea_nil)) fun H5 e5 Q q => ⟨_, _, rfl, ⟨_, rfl, rfl⟩, q⟩))) fun _ =>
      et_nei (j := if i % 2 = 0 then mz i else 1 - mz i) (morse_at (ev_iC (ev_var rfl) ev_c ⟨by decide, by decide⟩) i2.1 i2.2) (ev_if (b := i % 2 == 0) (et_eqi (ev_iC (ev_int1 (ev_var rfl)) ev_c (by decide)) ev_c) (fun hb => ?_) fun hb => ?_)) (by rw [z]; simp)) (fun z => nomatch z) fun _ H5 e5 => ?_
    · rw [if_pos (beq_iff_eq.mp hb)]
      exact morse_at (ev_var rfl) i0 i1
    · rw [if_neg (fun h => by rw [beq_iff_eq.mpr h] at hb; cases hb)]
      exact ev_ii ev_c (morse_at (ev_var rfl) i0 i1)
    have hP5 := hP4.ex e5
    have b5 := bb.trans (.of e5)
    clear e5 hP4 bb hc ilt i2
    refine ⟨.ref p, rfl, 10, 6, rfl, rfl, ⟨by decide, by decide, by decide⟩, p, 10 ^ (6 : Int).toNat, rfl, hP5, by decide, by decide, fun s1 H6 s0 s2 hP6 b6 => ?_⟩
    refine ⟨.ref p, rfl, p, 7, rfl, hP6, by decide, by decide, fun l1 H7 l0 l2 hP7 b7 => ⟨_, _, rfl, rfl, ?_⟩⟩
    refine ⟨by show 2 ≤ sizeLine; decide, fun t ht => ⟨t, _, rfl, st_of upd_same, rfl, _, _, rfl, _, _, rfl, rfl, ?_⟩⟩
    have s2' : s1 < 1000000000 := Int.lt_trans s2 (by decide)
    have e9 : Ex H7 (upd H7 t (.tup [.int s1, .int (1 + l1)])) := Ex.new ht
    have hP9 := hP7.ex e9
    have b9 := ((b5.trans b6).trans b7).trans (.of e9)
    generalize upd H7 t (.tup [.int s1, .int (1 + l1)]) = H9 at e9 hP9 b9 ⊢
    obtain ⟨L, hL⟩ : ∃ L, L = 1 + l1 := ⟨_, rfl⟩
    dsimp only
    rw [← hL]
    have L1 : 1 ≤ L := by omega
    have L7 : L ≤ 7 := by omega
    have hg := el_lcR1 (σ := [some (.ref p), some (.int i), some (.int s1), some (.int L), none, none]) (H := H9) (ta := tCons (tOp (rI CMul fun i j => V.int (i * j)) (tC (V.int 3)) (tVar 3)) tNil) (j := 5) (vs := [5]) (n := 3 * L)
      (te := tCall (spMorse K) [] E0 (tCons (tOp (rI0 fun i j => V.int (i + j)) (tVar 2) (tVar 5)) tNil)) (t := tYes)
      (fun _ => true) (fun k => .int (mz (s1 + (k : Int)))) (ea_cons (ev_iC ev_c (ev_var rfl) (.inl ⟨by decide, by decide⟩)) ea_nil) ⟨by omega, by omega⟩ (fun x => rfl) (fun _ _ _ _ => et_yes) (fun k H10 e10 hk _ => morse_at (ev_ii (ev_var rfl) (ev_var rfl)) (by omega) (by omega))
    have gm : given (3 * L).toNat (fun _ => true) (fun k => V.int (mz (s1 + (k : Int)))) = ((List.range (3 * L).toNat).map fun k : Nat => mz (s1 + (k : Int))).map V.int := by
      unfold given
      rw [List.filter_eq_self.mpr (fun _ _ => rfl), List.map_map]
      rfl
    rw [gm] at hg
    have th := thrice s0 s2' L1 L7
    have ln : ((List.range (3 * L).toNat).map fun k : Nat => mz (s1 + (k : Int))).length = (3 * L).toNat := by rw [List.length_map, List.length_range]
    generalize ((List.range (3 * L).toNat).map fun k : Nat => mz (s1 + (k : Int))) = ns at hg th ln
    refine s_asgL hg fun r H10 hr10 e10 h10 => ?_
    have cut : cutV (ns.map V.int) none (some L) = (ns.take L.toNat).map V.int := by
      rw [cut_to (by omega) (by rw [List.length_map]; omega), List.map_take]
    have hs := el_sl (σ := [some (.ref p), some (.int i), some (.int s1), some (.int L), some (.ref r), none]) (K := K) (H := H10) (te := tVar 4) (tl := tNoPart) (th := tPart (tVar 3)) (ev_var rfl) eo_none (eo_some (ev_var rfl)) (sq_of h10)
    rw [cut] at hs
    have hrep := el_rep (tb := tC (.int 3)) (k := 3) hs (fun H11 _ => ev_c) (by decide) (by rw [List.length_map, List.length_take]; omega)
    have fm : (List.replicate 3 ((ns.take L.toNat).map V.int)).flatten = ((List.replicate 3 (ns.take L.toNat)).flatten).map V.int := by simp
    rw [fm] at hrep
    refine s_ret (v := .bl true) (ev_is (ev_opL1 hrep (fun H11 e11 => ev_var rfl) fun q H11 hq e11 => rv_neL (sq_of hq) (sq_of (e11 _ _ h10))) ?_) fun H11 e11 => k H11 ((hP9.ex e10).ex e11) ((b9.trans (.of e10)).trans (.of e11))
    rw [beq_eq_false_iff_ne.mpr th]
    rfl
end
end K91
set_option linter.all false
set_option maxRecDepth 100000
set_option maxHeartbeats 400000
namespace K91
open G7
/-! Loreti's row, its first 120 items -/
def lorN (m : Int) (i : Nat) : Int := if m % 2 = 0 then m / 2 + (tmF 8 (i + 1) : Nat) - (tmF 8 i : Nat) else m / 2 + (tmF 8 (i + 1) : Nat)
theorem mz_small : ∀ i : Nat, i < 2 ^ 8 → mz (i : Int) = (tmF 8 i : Nat) := fun i h => by
  have hm : ∀ f, tmF (8 + f) i = tmF 8 i := fun f => by
    induction f with
    | zero => rfl
    | succ f ih => exact (tmF_more (8 + f) i (Nat.lt_of_lt_of_le h (Nat.pow_le_pow_right (by decide) (by omega)))).trans ih
  unfold mz
  rw [Int.toNat_natCast, ← hm 192]
theorem lor_small (m : Int) (i : Nat) (h : i < 255) : lor m (i : Int) = lorN m i := by
  have e : (i : Int) + 1 = ((i + 1 : Nat) : Int) := by omega
  unfold lor lorN
  rw [e, mz_small i (by omega), mz_small (i + 1) (by omega)]
def row (m : Int) : List Int := (List.range 120).map fun i : Nat => lor m (i : Int)
def rowN (m : Int) : List Int := (List.range 120).map (lorN m)
theorem row_eq (m : Int) : row m = rowN m := List.map_congr_left fun i hi => lor_small m i (by have := List.mem_range.mp hi; omega)
theorem row_len (m : Int) : (row m).length = 120 := by
  unfold row
  rw [List.length_map, List.length_range]
def chkA (m : Int) (r : List Int) : Bool := (List.range 39).all fun j => !ltL (r.take 64) ((r.drop (j + 1)).take 64) && (!decide (0 < r.getD j 0) || !ltL (r.take 64) (((r.drop (j + 1)).take 64).map fun one => m - one))
def chk (m : Int) (r : List Int) : Bool := r.all (fun x => decide (0 ≤ x) && decide (x ≤ m)) && ltL [m / 2, m / 2] (r.take 2) && chkA m r
theorem chk_ok : ((List.range 20).all fun n => chk ((n : Int) + 1) (rowN ((n : Int) + 1))) = true := by decide +kernel
theorem row_ok {m : Int} (h : 1 ≤ m ∧ m ≤ 20) : chk m (row m) = true := by
  have := List.all_eq_true.mp chk_ok (m - 1).toNat (List.mem_range.mpr (by omega))
  have e : (((m - 1).toNat : Nat) : Int) + 1 = m := by omega
  rw [e] at this
  rw [row_eq]
  exact this
theorem row_in {m : Int} (h : 1 ≤ m ∧ m ≤ 20) : ∀ x ∈ row m, 0 ≤ x ∧ x ≤ m := fun x hx => by
  have := row_ok h
  simp only [chk, Bool.and_eq_true] at this
  have := List.all_eq_true.mp this.1.1 x hx
  simpa using this
theorem row_two {m : Int} (h : 1 ≤ m ∧ m ≤ 20) : ltL [m / 2, m / 2] ((row m).take 2) = true := by
  have := row_ok h
  simp only [chk, Bool.and_eq_true] at this
  exact this.1.2
theorem row_at {m : Int} (h : 1 ≤ m ∧ m ≤ 20) {j : Nat} (hj : j < 39) : ltL ((row m).take 64) (((row m).drop (j + 1)).take 64) = false ∧ (0 < (row m).getD j 0 → ltL ((row m).take 64) ((((row m).drop (j + 1)).take 64).map fun one => m - one) = false) := by
  have := row_ok h
  simp only [chk, chkA, Bool.and_eq_true] at this
  have := List.all_eq_true.mp this.2 j (List.mem_range.mpr hj)
  simp only [Bool.and_eq_true, Bool.not_eq_true', Bool.or_eq_true, decide_eq_false_iff_not] at this
  exact ⟨this.1, fun hp => this.2.resolve_left fun z => z hp⟩
end K91
set_option Elab.async false
set_option linter.all false
set_option maxRecDepth 100000
set_option maxHeartbeats 4000000
namespace K91
open PySem PySem.Spec PyProof.Rows L2 Evl G7
theorem cut_at {xs : List V} {a : Nat} {b : Nat} (h : a + b ≤ xs.length) : cutV xs (some (a : Int)) (some ((a : Int) + (b : Int))) = (xs.drop a).take b := by
  have e : (a : Int) + (b : Int) = ((a + b : Nat) : Int) := by omega
  unfold cutV
  have e1 : min a xs.length = a := Nat.min_eq_left (by omega)
  have e2 : min (a + b) xs.length = a + b := Nat.min_eq_left h
  rw [e, HT.sIx_nat, HT.sIx_nat, e1, e2, Nat.add_sub_cancel_left]
theorem given_map (t : List Int) (g : Int → V) : given (t.map V.int).length (fun _ => true) (fun i => g (t.getD i 0)) = t.map g := by
  unfold given
  rw [List.filter_eq_self.mpr (fun _ _ => rfl), List.length_map]
  refine List.ext_getElem? fun i => ?_
  rw [List.getElem?_map, List.getElem?_map]
  by_cases h : i < t.length
  · rw [List.getElem?_range h, List.getElem?_eq_getElem h]
    simp [List.getD_eq_getElem?_getD, h]
  · rw [List.getElem?_eq_none (by rw [List.length_range]; omega), List.getElem?_eq_none (by omega)]
    rfl
theorem given_rows (m : Int) : given (120 : Int).toNat (fun _ => true) (fun i => V.int (lor m (i : Int))) = (row m).map V.int := by
  unfold given row
  rw [List.filter_eq_self.mpr (fun _ _ => rfl), List.map_map]
  rfl
section
variable {σ : L2.St} {H : Hp} {ta tb : TE} {tr : TA} {t : TT}
theorem go_cons {Q : List V → Hp → Prop} (h : ta σ H fun v H1 => tr σ H1 fun vs H2 => Q (v :: vs) H2) : tCons ta tr σ H Q := h
theorem go_call {sp : Sp} {dvs : List V} {E : XK} {Q : VK} (h : tr σ H fun vs H1 => sp (vs ++ dvs) H1 Q E) : tCall sp dvs E tr σ H Q := h
theorem go_tup {Q : VK} (h : tr σ H fun vs H1 => vs.length ≤ sizeLine ∧ ∀ a, H1 a = none → Q (.ref a) (upd H1 a (.tup vs))) : tTup tr σ H Q := h
theorem go_if {Q : VK} {b : Bool} (h : EvT t σ H b) (h1 : ∀ H1, Ex H H1 → if b = true then ta σ H1 Q else tb σ H1 Q) : tIf t ta tb σ H Q := h H (Ex.refl H) _ fun H1 e1 => h1 H1 e1
end
section
variable {P : Program} {w : World} {K : PySem.W.Frag} {mg : Str → Option Value} {base : Heap}
def spRow : Sp := fun vs H Q _ => ∃ m : Int, vs = [.int m] ∧ (1 ≤ m ∧ m ≤ 20) ∧ ∀ H', Ex H H' → Q (.bl true) H'
theorem ok_law_row_right (T : Tx K mg) : Has P w K mg base CX0 6 "_law_row_right" ["m"] spRow := by
  have G_loreti_item := ok_loreti_item (P := P) (w := w) (base := base) T
  have G_law_aw_loreti := ok_aw_loreti (P := P) (w := w) (base := base) T
  have G_golden_row := ok_golden_row (P := P) (w := w) (base := base) T
  have G_law_is := ok_law_isT (P := P) (w := w) (base := base) T (Rt.mono R0.mono) (ok_law_isT T R0.mono (ok_law_is0 T))
  refine Has.of T.f_law_row_right T.g_law_row_right sc_law_row_right bd_law_row_right (fun vs H Q E h => ?_) (fun cdv A outer s H vs Q E hr h => ?_)
  · obtain ⟨m, rfl, _⟩ := h
    rfl
  · obtain ⟨m, rfl, hm, k⟩ := h
    refine ⟨_, (pss_cons (ps_setLc (i := 1) (own := [("i", 2)]) (g := gName 2) (by rfl) sc_law_row_right.nd rfl rfl (sw_true rfl rfl rfl (by decide +kernel)) (pi_range1 rfl T.n_range (pa_cons pe_int pa_nil)) (blkOk_by (own := [("i", 2)]) (N := ["m", "row", "i", "one", "at", "tail", "gold", "k"]) (sc := defScope s_law_row_right) (by decide +kernel)) (fun _ _ _ _ _ => (pg_name (i := 2) sc_law_row_right.nd rfl (Or.inl rfl))) (fun _ _ _ _ _ => pts_nil) (fun _ _ _ _ _ => (pe_hc G_loreti_item (hr.mono (by omega)) rfl pass0 (pa_cons (pv 0) (pa_cons (pv 2) pa_nil)))))
      (pss_cons (ps_if (PW.pt (pw_or (pt_cmpR (op_neD hr.units) (pv 1) (pe_lc (own := [("i", 2)]) (g := gName 2) (by rfl) sc_law_row_right.nd (pi_range1 rfl T.n_range (pa_cons pe_int pa_nil)) (blkOk_by (own := [("i", 2)]) (N := ["m", "row", "i", "one", "at", "tail", "gold", "k"]) (sc := defScope s_law_row_right) (by decide +kernel)) (fun _ _ _ _ _ => (pg_name (i := 2) sc_law_row_right.nd rfl (Or.inl rfl))) (fun _ _ _ _ _ => pts_nil) (fun _ _ _ _ _ => (pe_hc G_law_aw_loreti (hr.mono (by omega)) rfl pass0 (pa_cons (pv 0) (pa_cons (pv 2) pa_nil))))) (nomark _)) (pw_or1 (pt_cmpR (op_neD hr.units) (pe_lc (own := [("one", 3)]) (g := gName 3) (by rfl) sc_law_row_right.nd (pi_list (pv 1)) (blkOk_by (own := [("one", 3)]) (N := ["m", "row", "i", "one", "at", "tail", "gold", "k"]) (sc := defScope s_law_row_right) (by decide +kernel)) (fun _ _ _ _ _ => (pg_name (i := 3) sc_law_row_right.nd rfl (Or.inl rfl))) (fun _ _ _ _ _ => pts_one (pt_not (pt_chain op_le op_le pe_int (pv 3) (pv 0)))) (fun _ _ _ _ _ => (pv 3))) (pe_lst pa_nil) (nomark _)))))
      pss_never pss_nil)
      (pss_cons (ps_for PassesOwn.never rfl (pi_range2 rfl T.n_range (pa_cons pe_int (pa_cons pe_int pa_nil))) (pg_name (i := 4) sc_law_row_right.nd rfl (Or.inl rfl))
      (pss_cons (ps_set (i := 5) sc_law_row_right.nd rfl (Or.inl rfl) (pe_slice sl_list (pv 1) (po_some (pv 4)) (po_some (pe_op op_add (pv 4) pe_int))))
      (pss_one (ps_if (PW.pt (pw_or (pt_cmpR (op_gtL hr.units) (pv 5) (pe_slice sl_list (pv 1) po_none (po_some pe_int)) (nomark _)) (pw_or1 (PW.pt (pw_and (pt_cmpR op_gt (pe_ix ix_list (pv 1) (pe_op op_sub (pv 4) pe_int) (fun _ _ => rfl)) pe_int (nomark _)) (pw_and1 (pt_cmpR (op_gtL hr.units) (pe_lc (own := [("one", 3)]) (g := gName 3) (by rfl) sc_law_row_right.nd (pi_list (pv 5)) (blkOk_by (own := [("one", 3)]) (N := ["m", "row", "i", "one", "at", "tail", "gold", "k"]) (sc := defScope s_law_row_right) (by decide +kernel)) (fun _ _ _ _ _ => (pg_name (i := 3) sc_law_row_right.nd rfl (Or.inl rfl))) (fun _ _ _ _ _ => pts_nil) (fun _ _ _ _ _ => (pe_op op_sub (pv 0) (pv 3)))) (pe_slice sl_list (pv 1) po_none (po_some pe_int)) (nomark _))))))))
      pss_never pss_nil))))
      (pss_cons (ps_set (i := 6) sc_law_row_right.nd rfl (Or.inl rfl) (pe_hc G_golden_row (hr.mono (by omega)) rfl pass0 (pa_cons (pv 0) pa_nil)))
      (pss_cons (ps_set (i := 7) sc_law_row_right.nd rfl (Or.inl rfl) (pe_op op_fdiv (pv 0) pe_int))
      (pss_one (ps_ret (pe_and (pe_hc G_law_is (hr.mono (by omega)) rfl pass0 (pa_cons (pe_tup (pa_cons (pe_fld (pv 6) rfl) (pa_cons (pe_fld (pv 6) rfl) pa_nil))) (pa_cons (pe_tup (pa_cons (pe_tup pa_nil) (pa_cons (pe_ifExp (pt_cmpR op_eq (pe_op op_mod (pe_callTy call_int1 rfl T.n_int (by decide +kernel) (pa_cons (pv 0) pa_nil)) pe_int) pe_int (nomark _)) (pe_tup (pa_cons (pv 7) pa_nil)) (pe_tup (pa_cons (pe_op op_add (pv 7) pe_int) (pa_cons (pv 7) pa_nil)))) pa_nil))) pa_nil))) (pe_one (pe_cmpR (op_gtL hr.units) (pe_slice sl_list (pv 1) po_none (po_some pe_int)) (pe_lst (pa_cons (pv 7) (pa_cons (pv 7) pa_nil))) (nomark _))))))))))), ?_⟩
    have rl := row_len m
    have lor_l : ∀ (te : TE → TE) (H1 : Hp), EvL (tLc (iRng1 (tCons (tC (.int 120)) tNil)) (gName 2) tYes (tCall spLor [] E0 (tCons (tVar 0) (tCons (tVar 2) tNil))) [2]) (start ["m", "row", "i", "one", "at", "tail", "gold", "k"] [V.int m]) H1 ((row m).map V.int) := fun te H1 => by
      have hL := el_lcR1 (σ := start ["m", "row", "i", "one", "at", "tail", "gold", "k"] [V.int m]) (H := H1) (ta := tCons (tC (.int 120)) tNil) (j := 2) (vs := [2]) (n := 120)
        (te := tCall spLor [] E0 (tCons (tVar 0) (tCons (tVar 2) tNil))) (t := tYes) (fun _ => true) (fun i => .int (lor m (i : Int))) (ea_cons ev_c ea_nil) ⟨by decide, by decide⟩ (fun x => rfl) (fun _ _ _ _ => et_yes)
        (fun i H2 e2 hi _ => ev_hc (ea_cons (ev_var rfl) (ea_cons (ev_var rfl) ea_nil)) fun H3 e3 Q q => ⟨m, i, rfl, hm, ⟨by omega, Int.le_trans (Int.le_of_lt hi) (by decide)⟩, q⟩)
      rw [given_rows] at hL
      exact hL
    refine s_asgL (lor_l id H) fun r H1 hr1 e1 h1 => ?_
    have hL2 := el_lcR1 (σ := [some (.int m), some (.ref r), none, none, none, none, none, none]) (H := H1) (ta := tCons (tC (.int 120)) tNil) (j := 2) (vs := [2]) (n := 120)
        (te := tCall spLor [] E0 (tCons (tVar 0) (tCons (tVar 2) tNil))) (t := tYes) (fun _ => true) (fun i => .int (lor m (i : Int))) (ea_cons ev_c ea_nil) ⟨by decide, by decide⟩ (fun x => rfl) (fun _ _ _ _ => et_yes)
        (fun i H2 e2 hi _ => ev_hc (ea_cons (ev_var rfl) (ea_cons (ev_var rfl) ea_nil)) fun H3 e3 Q q => ⟨m, i, rfl, hm, ⟨by omega, Int.le_trans (Int.le_of_lt hi) (by decide)⟩, q⟩)
    rw [given_rows] at hL2
    refine s_if (b := false) (et_is (et_or (et_test (ev_opL (ev_var rfl) hL2 fun q H2 hq e2 => rv_neL (sq_of (e2 _ _ h1)) (sq_of hq))) fun _ => et_test (ev_opLL (xs := []) (ys := []) ?_ (el_lst ea_nil (by decide)) fun p q H3 hp hq _ => rv_neL (ns := []) (ms := []) (sq_of hp) (sq_of hq))) (by simp)) (fun z => nomatch z) fun _ H2 e2 => ?_
    · have hb := el_lcL (K := K) (σ := [some (.int m), some (.ref r), none, none, none, none, none, none]) (H := H1) (tl := tVar 1) (j := 3) (vs := [3]) (te := tVar 3)
        (t := tNot (tTest (tChain rLe rLe (tC (.int 0)) (tVar 3) (tVar 0)))) (fun _ => false) (fun _ => .non) (ev_var rfl) (sq_of h1) (by rw [List.length_map, rl]; decide) (fun x => rfl) (fun i x H3 e3 hx => ?_) (fun i x H3 e3 hx z => nomatch z)
      · rw [given_none] at hb
        exact hb
      · rw [List.getElem?_map] at hx
        cases hn : (row m)[i]? with
        | none =>
          rw [hn] at hx
          cases hx
        | some z =>
          rw [hn] at hx
          obtain rfl : V.int z = x := Option.some.inj hx
          have hi := row_in hm z (List.mem_of_getElem? hn)
          exact et_is (et_not (et_test (ev_chain ev_c (ev_var rfl) (ev_var rfl)))) (by simp [hi.1, hi.2])
    have h2 := e2 _ _ h1
    have x2 := e1.trans e2
    clear hL2 h1 lor_l
    refine s_forR2 (ea_cons ev_c (ea_cons ev_c ea_nil)) ⟨by decide, by decide, by decide, by decide⟩ (fun _ σ H' => ∃ a b, σ = [some (.int m), some (.ref r), none, none, a, b, none, none] ∧ Ex H2 H') (fun H3 e3 => ⟨none, none, rfl, e3⟩) ?_ ?_
    · rintro i σ H3 hi ⟨a, b, rfl, e3⟩
      have hi' : i < 39 := by omega
      have h3 := e3 _ _ h2
      obtain ⟨g1, g2⟩ := row_at hm hi'
      have ei : (1 : Int) + (i : Int) = ((i + 1 : Nat) : Int) := by omega
      rw [ei]
      have c1 : cutV ((row m).map V.int) (some ((i + 1 : Nat) : Int)) (some (((i + 1 : Nat) : Int) + ((64 : Nat) : Int))) = (((row m).drop (i + 1)).take 64).map V.int := by
        rw [cut_at (by rw [List.length_map, rl]; omega), List.map_take, List.map_drop]
      have c2 : cutV ((row m).map V.int) none (some 64) = ((row m).take 64).map V.int := by
        rw [cut_to (by decide) (by rw [List.length_map, rl]; decide), List.map_take]
        rfl
      have hs1 := el_sl (σ := [some (.int m), some (.ref r), none, none, some (.int ((i + 1 : Nat) : Int)), b, none, none]) (K := K) (H := H3) (te := tVar 1) (tl := tPart (tVar 4)) (th := tPart (tOp (rI0 fun i j => V.int (i + j)) (tVar 4) (tC (.int 64)))) (ev_var rfl) (eo_some (ev_var rfl)) (eo_some (ev_ii (ev_var rfl) ev_c)) (sq_of h3)
      rw [show ((i + 1 : Nat) : Int) + 64 = ((i + 1 : Nat) : Int) + ((64 : Nat) : Int) from rfl, c1] at hs1
      refine s_asgL hs1 fun t H4 ht e4 h4 => ?_
      have h4r := e4 _ _ h3
      have hs2 : ∀ H5, Ex H4 H5 → EvL (tSl (rSlL K) (tVar 1) tNoPart (tPart (tC (.int 64)))) [some (.int m), some (.ref r), none, none, some (.int ((i + 1 : Nat) : Int)), some (.ref t), none, none] H5 (((row m).take 64).map V.int) := fun H5 e5 => by
        have := el_sl (σ := [some (.int m), some (.ref r), none, none, some (.int ((i + 1 : Nat) : Int)), some (.ref t), none, none]) (K := K) (H := H5) (te := tVar 1) (tl := tNoPart) (th := tPart (tC (.int 64))) (ev_var rfl) eo_none (eo_some ev_c) (sq_of (e5 _ _ h4r))
        rw [c2] at this
        exact this
      have hget : ((row m).map V.int)[i]? = some (.int ((row m).getD i 0)) := by
        have hl : i < (row m).length := by omega
        rw [List.getElem?_map, List.getElem?_eq_getElem hl]
        simp [List.getD_eq_getElem?_getD, hl]
      have hcomp := el_lcL (K := K) (σ := [some (.int m), some (.ref r), none, none, some (.int ((i + 1 : Nat) : Int)), some (.ref t), none, none]) (H := H4) (tl := tVar 5) (j := 3) (vs := [3]) (te := tOp (rI0 fun i j => V.int (i - j)) (tVar 0) (tVar 3))
        (t := tYes) (fun _ => true) (fun j => .int (m - (((row m).drop (i + 1)).take 64).getD j 0)) (ev_var rfl) (sq_of h4) (by rw [List.length_map, List.length_take]; omega) (fun x => rfl) (fun _ _ _ _ _ => et_yes) (fun j x H5 e5 hx _ => by
          rw [List.getElem?_map] at hx
          cases hn : (((row m).drop (i + 1)).take 64)[j]? with
          | none =>
            rw [hn] at hx
            cases hx
          | some z =>
            rw [hn] at hx
            obtain rfl : V.int z = x := Option.some.inj hx
            rw [List.getD_eq_getElem?_getD, hn]
            exact ev_ii (ev_var rfl) (ev_var rfl))
      rw [given_map _ (fun z => V.int (m - z))] at hcomp
      rw [show (((row m).drop (i + 1)).take 64).map (fun z => V.int (m - z)) = ((((row m).drop (i + 1)).take 64).map fun one => m - one).map V.int from by rw [List.map_map]; rfl] at hcomp
      refine s_if (b := false) (et_is (et_or (et_test (ev_opL (ev_var rfl) (hs2 H4 (Ex.refl H4)) fun q H5 hq e5 => rv_gtL (sq_of (e5 _ _ h4)) (sq_of hq))) fun _ => et_and (et_ii (ev_op (ev_var rfl) (ev_ii (ev_var rfl) ev_c) (rv_ixL (sq_of h4r) (i := ((i + 1 : Nat) : Int) - 1) (v := .int ((row m).getD i 0)) (by rw [show ((i + 1 : Nat) : Int) - 1 = (i : Int) by omega]; exact atI_nat hget))) ev_c)
        fun _ => et_test (ev_opLL hcomp (hs2 H4 (Ex.refl H4)) fun p q H5 hp hq e5 => rv_gtL (sq_of hp) (sq_of hq))) ?_) (fun z => nomatch z) fun _ H5 e5 => ?_
      · rw [g1, Bool.false_or]
        cases hb : decide (0 < (row m).getD i 0)
        · rfl
        · rw [g2 (of_decide_eq_true hb)]
          rfl
      · exact ⟨_, _, rfl, (e3.trans e4).trans e5⟩
    · rintro σ H3 ⟨a, b, rfl, e3⟩
      have h3 := e3 _ _ h2
      have x3 := x2.trans e3
      refine ⟨.int m, rfl, m, rfl, hm, fun g dx ga gr H4 e4 hg hga hgr => ?_⟩
      dsimp only
      refine s_asg (ev_iC (ev_var rfl) ev_c ⟨by decide, by decide⟩) fun H5 e5 => ?_
      have hg5 := e5 _ _ hg
      have hga5 := e5 _ _ hga
      have hgr5 := e5 _ _ hgr
      have h5 := (e4.trans e5) _ _ h3
      have x5 := x3.trans (e4.trans e5)
      have gi : (gring m).length ≤ 1000 ∧ ∀ x ∈ gring m, ∃ i : Int, x = .int i := by
        unfold gring
        split
        · exact ⟨by show 1 ≤ 1000; decide, fun x hx => ⟨_, List.mem_singleton.mp hx⟩⟩
        · refine ⟨by show 2 ≤ 1000; decide, fun x hx => ?_⟩
          rcases List.mem_cons.mp hx with rfl | hx
          · exact ⟨_, rfl⟩
          · exact ⟨_, List.mem_singleton.mp hx⟩
      have c2 : cutV ((row m).map V.int) none (some 2) = ((row m).take 2).map V.int := by
        rw [cut_to (by decide) (by rw [List.length_map, rl]; decide), List.map_take]
        rfl
      have fld1 : Ev (tFld K (tVar 6) "ahead") [some (.int m), some (.ref r), none, none, a, b, some (.ref g), some (.int (m / 2))] H5 (.ref ga) := fun H6 e6 Q q => ⟨.ref g, rfl, g, _, _, _, _, rfl, e6 _ _ hg5, T.rowC, T.rowA, rfl, q H6 (Ex.refl H6)⟩
      have fld2 : Ev (tFld K (tVar 6) "ring") [some (.int m), some (.ref r), none, none, a, b, some (.ref g), some (.int (m / 2))] H5 (.ref gr) := fun H6 e6 Q q => ⟨.ref g, rfl, g, _, _, _, _, rfl, e6 _ _ hg5, T.rowC, T.rowR, rfl, q H6 (Ex.refl H6)⟩
      have hs2 := el_sl (σ := [some (.int m), some (.ref r), none, none, a, b, some (.ref g), some (.int (m / 2))]) (K := K) (H := H5) (te := tVar 1) (tl := tNoPart) (th := tPart (tC (.int 2))) (ev_var rfl) eo_none (eo_some ev_c) (sq_of h5)
      rw [c2] at hs2
      dsimp only
      refine s_ret (v := .bl true) (ev_is (ev_andV (a := true) ?_ fun _ => ev_opLL hs2 (el_lst (vs := [m / 2, m / 2].map V.int) (ea_cons (ev_var rfl) (ea_cons (ev_var rfl) ea_nil)) (by show 2 ≤ 100000; decide)) fun p q H6 hp hq e6 => rv_gtL (sq_of hp) (sq_of hq)) (by rw [row_two hm]; rfl)) fun H6 e6 => (by exact k H6 (x5.trans e6))
      intro H6 e6 Q2 q
      refine go_call (go_cons ((eu_tup (ea_cons fld1 (ea_cons fld2 ea_nil)) (by show 2 ≤ 100000; decide)) H6 e6 _ fun t1 H7 _ e7 h7 => go_cons (go_tup (go_cons ((eu_tup ea_nil (by show 0 ≤ 100000; decide)) H7 (e6.trans e7) _ fun t2 H8 _ e8 h8 => go_cons (go_if (b := m % 2 == 0) (et_eqi (ev_iC (ev_int1 (ev_var rfl)) ev_c (by decide)) ev_c) fun H9 e9 => ?_))))))
      have fin : ∀ tx : TE, EvU tx [some (.int m), some (.ref r), none, none, a, b, some (.ref g), some (.int (m / 2))] H9 (gring m) → tx [some (.int m), some (.ref r), none, none, a, b, some (.ref g), some (.int (m / 2))] H9 fun v H1 => tNil [some (.int m), some (.ref r), none, none, a, b, some (.ref g), some (.int (m / 2))] H1 fun vs H2 => (V.ref t2 :: v :: vs).length ≤ sizeLine ∧ ∀ t4, H2 t4 = none → tNil [some (.int m), some (.ref r), none, none, a, b, some (.ref g), some (.int (m / 2))] (upd H2 t4 (.tup (.ref t2 :: v :: vs))) fun us H2 => spIs (Rt (Rt R0)) (V.ref t1 :: V.ref t4 :: us ++ []) H2 Q2 E0 := fun tx hU =>
        hU H9 (Ex.refl H9) _ fun t3 H10 _ e10 h10 => ⟨by show 2 ≤ sizeLine; decide, fun t4 ht4 => by
          have y7 := (e8.trans e9).trans e10
          have n4 := Ex.new (H := H10) (o := .tup [.ref t2, .ref t3]) ht4
          refine ⟨.ref t1, .ref t4, rfl, ⟨t1, t4, _, _, rfl, rfl, n4 _ _ (y7 _ _ h7), upd_same, rfl, by show 2 ≤ 1000; decide, fun i x y hx hy => ?_⟩, fun H' e' => q H' (((e7.trans y7).trans n4).trans e')⟩
          have z6 := ((e6.trans e7).trans y7).trans n4
          match i, hx, hy with
          | 0, hx, hy =>
            obtain rfl := Option.some.inj hx
            obtain rfl := Option.some.inj hy
            exact ⟨ga, t2, [], [], rfl, rfl, z6 _ _ hga5, n4 _ _ ((e9.trans e10) _ _ h8), rfl, by show 0 ≤ 1000; decide, fun i x y h => by simp at h⟩
          | 1, hx, hy =>
            obtain rfl := Option.some.inj hx
            obtain rfl := Option.some.inj hy
            refine ⟨gr, t3, gring m, gring m, rfl, rfl, z6 _ _ hgr5, n4 _ _ h10, rfl, gi.1, fun i x y h1 h2 => ?_⟩
            rw [h1] at h2
            obtain rfl := Option.some.inj h2
            obtain ⟨z, rfl⟩ := gi.2 x (List.mem_of_getElem? h1)
            exact ⟨z, rfl, rfl⟩
          | i + 2, hx, hy => simp at hx⟩
      by_cases h : m % 2 = 0
      · rw [beq_iff_eq.mpr h]
        rw [if_pos rfl]
        refine fin _ ?_
        unfold gring
        rw [if_pos h]
        exact eu_tup (ea_cons (ev_var rfl) ea_nil) (by show 1 ≤ 100000; decide)
      · rw [beq_eq_false_iff_ne.mpr h]
        rw [if_neg Bool.false_ne_true]
        refine fin _ ?_
        unfold gring
        rw [if_neg h]
        exact eu_tup (ea_cons (ev_ii (ev_var rfl) ev_c) (ea_cons (ev_var rfl) ea_nil)) (by show 2 ≤ 100000; decide)
end
end K91
set_option Elab.async false
set_option linter.all false
set_option maxRecDepth 100000
set_option maxHeartbeats 4000000
namespace K91
open PySem PySem.Spec PyProof.Rows L2 Evl G7 LamX
theorem go_lst {σ : L2.St} {H : Hp} {tr : TA} {Q : VK} (h : tr σ H fun vs H1 => vs.length ≤ sizeLine ∧ ∀ a, H1 a = none → Q (.ref a) (upd H1 a (.lst vs))) : tLst tr σ H Q := h
theorem go_c {σ : L2.St} {H : Hp} {v : V} {Q : VK} (h : Q v H) : tC v σ H Q := h
theorem go_nil {σ : L2.St} {H : Hp} {Q : List V → Hp → Prop} (h : Q [] H) : tNil σ H Q := h
theorem But.tabs {Ts : List (Addr × Str)} {H H' : Hp} {p : Addr} {kvs : List (Key × V)} (t : Tabs Ts H) (hp : H p = some (.dK kvs)) (b : But p H H') : Tabs Ts H' := fun x hx => by
  obtain ⟨ps, h1, h2, h3⟩ := t x hx
  refine ⟨ps, b _ _ h1 (ne_of h1 hp (by intro z; cases z)), h2, fun pos cv hc => ?_⟩
  obtain ⟨c, e1, e2⟩ := h3 pos cv hc
  exact ⟨c, e1, b _ _ e2 (ne_of e2 hp (by intro z; cases z))⟩
theorem PenOk.tabs {Ts : List (Addr × Str)} {H H' : Hp} {p : Addr} (t : Tabs Ts H) (hp : PenOk H p) (b : But p H H') : Tabs Ts H' := by
  obtain ⟨P0, ns, h⟩ := hp
  exact But.tabs t h.at_ b
theorem rv_ne3 {K : PySem.W.Frag} {H : Hp} {a b : Addr} {x y z : Str} (ha : SqT K H a [.str x, .str y, .str z]) (hb : SqT K H b [.str x, .str y, .str z]) (hx : PyData.strOk x = true) (hy : PyData.strOk y = true) (hz : PyData.strOk z = true) : RV (rNeD K) (.ref a) (.ref b) H (.bl false) := fun H1 e Q q =>
  ⟨.tuple [.str x, .str y, .str z], .tuple [.str x, .str y, .str z], .tup (ex_t e ha) (.cons (.str x) (.cons (.str y) (.cons (.str z) .nil))), .tup (ex_t e hb) (.cons (.str x) (.cons (.str y) (.cons (.str z) .nil))),
    by simp [SeqAt.shaped, PyData.canLay0, PyData.canLayAll0, PyData.depth, PyData.depthAll, hx, hy, hz], by simp [SeqAt.shaped, PyData.canLay0, PyData.canLayAll0, PyData.depth, PyData.depthAll, hx, hy, hz], by
    have h : PyData.eqv (.tuple [.str x, .str y, .str z]) (.tuple [.str x, .str y, .str z]) = true := by simp [PyData.eqv, PyData.eqvAll]
    rw [h]
    exact q H1 (Ex.refl H1)⟩
theorem given_ints (n : Nat) (f : Nat → Int) : given n (fun _ => true) (fun i => V.int (f i)) = ((List.range n).map f).map V.int := by
  unfold given
  rw [List.filter_eq_self.mpr (fun _ _ => rfl), List.map_map]
  rfl
theorem first16 : (List.range 16).map (fun i : Nat => mz (i : Int)) = [0, 1, 1, 0, 1, 0, 0, 1, 1, 0, 0, 1, 0, 1, 1, 0] := by decide +kernel
theorem first4 : (List.range 4).map (fun i : Nat => lor 1 (i : Int)) = [1, 1, 0, 1] := by decide +kernel
/-- what the law's odd figure is, and how it is written -/
def OddV (K : PySem.W.Frag) (H : Hp) (v : V) (z : Str) : Prop := PyData.strOk z = true ∧ ∀ H1, ExtN H H1 → Btw K H1 v 0 (10 ^ 40) false ∧ ReprIs K H1 v z
theorem odd_int {K : PySem.W.Frag} {H : Hp} {i : Int} (h1 : (decide ((0 : Int) ≤ i) && decide (i ≤ 10 ^ 40)) = false) (h2 : i.natAbs.log2 < 1920) (h3 : PyData.strOk (toString i : String) = true) : OddV K H (.int i) (toString i : String) := ⟨h3, fun H1 e => ⟨.inl ⟨i, rfl, h1.symm⟩, .int i h2⟩⟩
theorem odd_non {K : PySem.W.Frag} {H : Hp} : OddV K H .non "None" := ⟨by decide +kernel, fun H1 e => ⟨.inr ⟨IsI.non, rfl⟩, .non⟩⟩
theorem odd_true {K : PySem.W.Frag} {H : Hp} : OddV K H (.bl true) "True" := ⟨by decide +kernel, fun H1 e => ⟨.inr ⟨IsI.bl true, rfl⟩, .bl true⟩⟩
theorem odd_one {K : PySem.W.Frag} {H : Hp} : OddV K H (.str "1") (reprText "1") := ⟨by decide +kernel, fun H1 e => ⟨.inr ⟨IsI.str "1", rfl⟩, .str "1" (by decide +kernel)⟩⟩
theorem odd_tup {K : PySem.W.Frag} {H : Hp} {a : Addr} (h : H a = some (.tup [.int 1])) : OddV K H (.ref a) (PyData.tuple [.int 1]).shown := ⟨by decide +kernel, fun H1 e => by
  have h1 := e a _ h fun ps z => by cases z
  exact ⟨.inr ⟨IsI.tup h1, rfl⟩, .seq (.tup (st_of h1) (.cons (.int 1) .nil)) (by decide +kernel) (by decide +kernel) (by decide +kernel) (by decide +kernel)⟩⟩
section
variable {P : Program} {w : World} {K : PySem.W.Frag} {mg : Str → Option Value} {base : Heap}
def spLaw (K : PySem.W.Frag) : Sp := fun vs H Q _ => ∃ (a : Addr) (ns : List Int), vs = [.ref a] ∧ SqL K H a (ns.map V.int) ∧ Tabs (tbs K) H ∧ ∀ H', Q (.bl true) H'
theorem ok_law (T : Tx K mg) (TB : TabB base mg (He.cT K ("_law_morse_fault", none)).1 (He.cT K ("_law_morse_fault", none)).2) : HasG P w K mg base 10 "law" ["script"] (spLaw K) := by
  have G_law_pen := ok_law_pen (P := P) (w := w) (base := base) T
  have G_law_right := ok_law_right (P := P) (w := w) (base := base) T
  have G_law_row_right := ok_law_row_right (P := P) (w := w) (base := base) T
  have G_law_draw := ok_law_draw (P := P) (w := w) (base := base) T
  have G_law_pick := ok_law_pick (P := P) (w := w) (base := base) T
  have G_morse_fault := ok_law_morse_fault (P := P) (w := w) T TB
  have G_morse_item := ok_morse_item (P := P) (w := w) (base := base) T
  have G_loreti_item := ok_loreti_item (P := P) (w := w) (base := base) T
  refine HasG.of T.f_law T.g_law sc_law bd_law (fun vs H Q E h => ?_) (fun cdv A outer s H vs Q hcode hr hbare h => ?_)
  · obtain ⟨a, ns, rfl, _⟩ := h
    rfl
  · obtain ⟨a, ns, rfl, hS, hT, k⟩ := h
    have hu : (A.deeper (envOfC "law" (defScope s_law) s.heap.objs.size (He.ga K "law") cdv)).units + 66 < cLine := by have := hr.un; omega
    refine ⟨_, (pss_cons (ps_set (i := 1) sc_law.nd rfl (Or.inl rfl) (pe_hc G_law_pen (hr.mono (by omega)) rfl pass0 (pa_cons (pv 0) pa_nil)))
      (pss_cons (ps_for PassesOwn.never rfl (pi_range1 rfl T.n_range (pa_cons pe_int pa_nil)) (pg_name (i := 2) sc_law.nd rfl (Or.inl rfl))
      (pss_one (ps_if (pt_not (pt_val (pe_hc G_law_right (hr.mono (by omega)) rfl pass0 (pa_cons (pv 1) pa_nil))))
      pss_never pss_nil)))
      (pss_cons (ps_if (pt_not (pt_val (pe_hc G_law_row_right (hr.mono (by omega)) rfl pass0 (pa_cons (pe_op op_add pe_int (pe_hc G_law_draw (hr.mono (by omega)) rfl pass0 (pa_cons (pv 1) (pa_cons pe_int pa_nil)))) pa_nil))))
      pss_never pss_nil)
      (pss_cons (ps_set (i := 3) sc_law.nd rfl (Or.inl rfl) (pe_hc G_law_pick (hr.mono (by omega)) rfl pass0 (pa_cons (pv 1) (pa_cons (pe_lst (pa_cons (pe_un un_neg pe_int) (pa_cons (pe_op op_add (pe_op op_pow pe_int pe_int) pe_int) (pa_cons pe_non (pa_cons pe_bl (pa_cons pe_str (pa_cons (pe_tup (pa_cons pe_int pa_nil)) pa_nil))))))) pa_nil))))
      (pss_cons (ps_if (pt_cmpR (op_neD hr.units) (pe_hcG G_morse_fault (hr.mono (by decide)) hbare rfl (pa_cons (pv 3) pa_nil)) (pe_tup (pa_cons pe_str (pa_cons pe_str (pa_cons (pe_callB (call_reprV hbare hu) rfl T.n_repr (by decide +kernel) (pa_cons (pv 3) pa_nil)) pa_nil)))) (nomark _))
      pss_never pss_nil)
      (pss_one (ps_ret (pe_and (pe_cmpR (op_eqD hr.units) (pe_lc (own := [("at", 4)]) (g := gName 4) (by rfl) sc_law.nd (pi_range1 rfl T.n_range (pa_cons pe_int pa_nil)) (blkOk_by (own := [("at", 4)]) (N := ["script", "pen", "lap", "odd", "at", "i"]) (sc := defScope s_law) (by decide +kernel)) (fun _ _ _ _ _ => (pg_name (i := 4) sc_law.nd rfl (Or.inl rfl))) (fun _ _ _ _ _ => pts_nil) (fun _ _ _ _ _ => (pe_hc G_morse_item (hr.mono (by omega)) rfl passX0 (pa_cons (pv 4) pa_nil)))) (pe_lst (pa_cons pe_int (pa_cons pe_int (pa_cons pe_int (pa_cons pe_int (pa_cons pe_int (pa_cons pe_int (pa_cons pe_int (pa_cons pe_int (pa_cons pe_int (pa_cons pe_int (pa_cons pe_int (pa_cons pe_int (pa_cons pe_int (pa_cons pe_int (pa_cons pe_int (pa_cons pe_int pa_nil))))))))))))))))) (nomark _)) (pe_one (pe_cmpR (op_eqD hr.units) (pe_lc (own := [("i", 5)]) (g := gName 5) (by rfl) sc_law.nd (pi_range1 rfl T.n_range (pa_cons pe_int pa_nil)) (blkOk_by (own := [("i", 5)]) (N := ["script", "pen", "lap", "odd", "at", "i"]) (sc := defScope s_law) (by decide +kernel)) (fun _ _ _ _ _ => (pg_name (i := 5) sc_law.nd rfl (Or.inl rfl))) (fun _ _ _ _ _ => pts_nil) (fun _ _ _ _ _ => (pe_hc G_loreti_item (hr.mono (by omega)) rfl pass0 (pa_cons pe_int (pa_cons (pv 5) pa_nil))))) (pe_lst (pa_cons pe_int (pa_cons pe_int (pa_cons pe_int (pa_cons pe_int pa_nil))))) (nomark _))))))))))), ?_⟩
    refine ⟨.ref a, rfl, a, ns, rfl, hS, fun p H1 e1 hP hp => ?_⟩
    have hT1 : Tabs (tbs K) H1 := hT.ext e1
    refine s_forR1 (ea_cons ev_c ea_nil) ⟨by decide, by decide⟩ (fun _ σ H' => ∃ v, σ = [some (.ref a), some (.ref p), v, none, none, none] ∧ PenOk H' p ∧ But p H1 H') (fun H2 e2 => ⟨none, rfl, hP.ex e2, .of e2⟩) ?_ ?_
    · rintro i σ H2 hi ⟨v, rfl, hP2, b2⟩
      exact ⟨.ref p, rfl, p, rfl, hP2, fun H3 hP3 b3 => ⟨true, rfl, _, rfl, hP3, b2.trans b3⟩⟩
    · rintro σ H2 ⟨v', rfl, hP2, b2⟩
      refine ⟨.ref p, rfl, p, 20, rfl, hP2, by decide, by decide, fun d H3 d0 d1 hP3 b3 => ⟨1, d, rfl, rfl, 1 + d, rfl, ⟨by omega, by omega⟩, fun H4 e4 => ⟨true, rfl, ?_⟩⟩⟩
      have hP4 := hP3.ex e4
      have b4 := (b2.trans b3).trans (.of e4)
      refine ⟨.ref p, rfl, go_cons (go_lst (go_cons ((ev_un ev_c ru_neg) H4 (Ex.refl H4) _ fun H5 e5 => go_cons ((ev_ii (ev_iC ev_c ev_c (show CPow 10 40 from ⟨by decide, by decide, by decide⟩)) ev_c) H5 (Ex.refl H5) _ fun H6 e6 =>
        go_cons (go_c (go_cons (go_c (go_cons (go_c (go_cons ((eu_tup (ea_cons ev_c ea_nil) (by show 1 ≤ 100000; decide)) H6 (Ex.refl H6) _ fun t H7 _ e7 h7 => go_nil ?_)))))))))))⟩
      refine ⟨by show 6 ≤ sizeLine; decide, fun l hl => ?_⟩
      have x8 := ((e5.trans e6).trans e7).trans (Ex.new (o := .lst [.int (-1), .int (10 ^ (40 : Int).toNat + 1), .non, .bl true, .str "1", .ref t]) hl)
      refine ⟨p, l, _, rfl, hP4.ex x8, upd_same, by simp, by show 6 < 1000000; decide, fun v H9 hv hP9 b9 => ?_⟩
      obtain ⟨P0, ns0, hPa⟩ := hP4.ex ((e5.trans e6).trans e7)
      have h9 := b9 t _ (Ex.new hl _ _ h7) (ne_of h7 hPa.at_ (by intro z; cases z))
      have hT9 : Tabs (tbs K) H9 := PenOk.tabs hT1 hP ((b4.trans (.of x8)).trans b9)
      obtain ⟨z, zok, hn⟩ : ∃ z, OddV K H9 v z := by
        rcases List.mem_cons.mp hv with rfl | hv
        · exact ⟨_, odd_int (by decide +kernel) (by decide +kernel) (by decide +kernel)⟩
        rcases List.mem_cons.mp hv with rfl | hv
        · exact ⟨_, odd_int (by decide +kernel) (by decide +kernel) (by decide +kernel)⟩
        rcases List.mem_cons.mp hv with rfl | hv
        · exact ⟨_, odd_non⟩
        rcases List.mem_cons.mp hv with rfl | hv
        · exact ⟨_, odd_true⟩
        rcases List.mem_cons.mp hv with rfl | hv
        · exact ⟨_, odd_one⟩
        obtain rfl := List.mem_singleton.mp hv
        exact ⟨_, odd_tup h9⟩
      dsimp only
      refine ⟨v, rfl, v, z, rfl, hT9, hn, fun t2 H10 e10 ht2 => ?_⟩
      refine (eu_tup (ea_cons ev_c (ea_cons ev_c (ea_cons (ev_repr (ev_var rfl) (hn H10 e10).2) ea_nil))) (by show 3 ≤ 100000; decide)) H10 (Ex.refl H10) _ fun q H11 hq e11 h11 => ?_
      refine rv_ne3 (K := K) (st_of (e11 _ _ ht2)) (st_of h11) (by decide +kernel) (by decide +kernel) zok H11 (Ex.refl H11) _ fun H12 e12 => ⟨false, rfl, ?_⟩
      dsimp only
      rw [if_neg Bool.false_ne_true]
      unfold tNext
      dsimp only
      have l1 := el_lcR1 (σ := [some (.ref a), some (.ref p), v', some v, none, none]) (H := H12) (ta := tCons (tC (.int 16)) tNil) (j := 4) (vs := [4]) (n := 16) (te := tCall (spMorse K) [] E0 (tCons (tVar 4) tNil)) (t := tYes)
        (fun _ => true) (fun i => .int (mz (i : Int))) (ea_cons ev_c ea_nil) ⟨by decide, by decide⟩ (fun x => rfl) (fun _ _ _ _ => et_yes) (fun i H13 e13 hi _ => morse_at (ev_var rfl) (by omega) (Int.le_trans (Int.le_of_lt hi) (by decide)))
      rw [show (16 : Int).toNat = 16 from rfl, given_ints 16 (fun i => mz (i : Int)), first16] at l1
      have l2 : ∀ H13, Ex H12 H13 → EvL (tLc (iRng1 (tCons (tC (.int 4)) tNil)) (gName 5) tYes (tCall spLor [] E0 (tCons (tC (.int 1)) (tCons (tVar 5) tNil))) [5]) [some (.ref a), some (.ref p), v', some v, none, none] H13 ([1, 1, 0, 1].map V.int) := fun H13 _ => by
        have l := el_lcR1 (σ := [some (.ref a), some (.ref p), v', some v, none, none]) (H := H13) (ta := tCons (tC (.int 4)) tNil) (j := 5) (vs := [5]) (n := 4) (te := tCall spLor [] E0 (tCons (tC (.int 1)) (tCons (tVar 5) tNil))) (t := tYes)
          (fun _ => true) (fun i => .int (lor 1 (i : Int))) (ea_cons ev_c ea_nil) ⟨by decide, by decide⟩ (fun x => rfl) (fun _ _ _ _ => et_yes)
          (fun i H14 e14 hi _ => ev_hc (ea_cons ev_c (ea_cons (ev_var rfl) ea_nil)) fun H15 e15 Q q => ⟨1, i, rfl, ⟨by decide, by decide⟩, ⟨by omega, Int.le_trans (Int.le_of_lt hi) (by decide)⟩, q⟩)
        rw [show (4 : Int).toNat = 4 from rfl, given_ints 4 (fun i => lor 1 (i : Int)), first4] at l
        exact l
      refine s_ret (v := .bl true) (ev_is (ev_andV (ev_opLL l1 (el_lst (vs := [0, 1, 1, 0, 1, 0, 0, 1, 1, 0, 0, 1, 0, 1, 1, 0].map V.int) (ea_cons ev_c (ea_cons ev_c (ea_cons ev_c (ea_cons ev_c (ea_cons ev_c (ea_cons ev_c (ea_cons ev_c (ea_cons ev_c (ea_cons ev_c (ea_cons ev_c (ea_cons ev_c (ea_cons ev_c (ea_cons ev_c (ea_cons ev_c (ea_cons ev_c (ea_cons ev_c ea_nil)))))))))))))))) (by show 16 ≤ 100000; decide)) fun p q H13 hp hq e13 => rv_eqL (sq_of hp) (sq_of hq))
        fun _ => ev_opLL (l2 H12 (Ex.refl H12)) (el_lst (vs := [1, 1, 0, 1].map V.int) (ea_cons ev_c (ea_cons ev_c (ea_cons ev_c (ea_cons ev_c ea_nil)))) (by show 4 ≤ 100000; decide)) fun p q H13 hp hq e13 => rv_eqL (sq_of hp) (sq_of hq)) (by decide)) fun H13 e13 => (by exact k H13)
end
end K91
set_option Elab.async false
set_option linter.all false
set_option maxRecDepth 100000
set_option maxHeartbeats 0
namespace K91
open PySem PySem.Spec PyProof.Rows L2 Evl G7
abbrev theTab (K : PySem.W.Frag) : Addr × Addr := He.cT K ("_law_morse_fault", none)
theorem told {w : World} {mg : Str → Option Value} {f : Addr} {h : Heap} (G : h.Ns mainGlobals mg) (hf : mg ("law" : Str) = some (.ref f)) (Y : ∃ K : PySem.W.Frag, K.In h ∧ He.SaysX fa fn [] tf ex w h K) : G8.Told PySem.Challenge.rw_allwritings_k91_whole_morse_and_loreti w 10 63 "law" "script" mg f h := by
  obtain ⟨K, KX, c⟩ := Y
  have T : Tx K mg := ⟨w, h, KX, G, c⟩
  have ef := hf.symm.trans T.g_law
  have mt : (("_law_morse_fault", none) : He.Defn) ∈ tf := List.mem_cons_self
  refine ⟨K, [theTab K], spLaw K, KX, Value.ref.inj (Option.some.inj ef), fun p hp => ?_, fun p hp => ?_, fun p hp => ?_, fun base _ _ TB => ok_law T (TB _ List.mem_cons_self), fun H a ns _ _ ht hS => ⟨a, ns, rfl, hS, fun p hp => ?_, fun _ => rfl⟩⟩
  · rw [List.mem_singleton.mp hp]
    exact c.empty _ mt
  · rw [List.mem_singleton.mp hp]
    exact c.out _ mt
  · rw [List.mem_singleton.mp hp]
    exact PySem.W.codeHd_of_K KX (c.hd _ mt)
  · rw [List.mem_singleton.mp hp]
    exact LamX.TabS.nil (ht _ List.mem_cons_self)
end K91
open PySem PySem.W PySem.Calls PyProof.Rows
theorem PySem.Challenge.cw_allwritings_k91_whole_morse_and_loreti_holds : PySem.Challenge.rw_allwritings_k91_whole_morse_and_loreti.Holds := by
  w_on; o_law
  refine HandSHeadRun.head_any (r := K91.R) (q := view K91.R.prog [53]) (H := K91.hk) (ob := K91.ob) (M := 6000) (loose := K91.names) (d := HandSHeadRun.topDef K91.R.prog 53) (kwd := []) K91.ob_eq
    (by kernel_rfl) (fun s => by kernel_rfl) K91.run (by kernel_rfl) (by kernel_rfl) (by kernel_rfl) (by rfl) (by first | assumption | decide +kernel) (by decide +kernel) ⟨rfl, rfl, rfl, rfl, rfl, by decide +kernel⟩ ?hw ?hc
  case hw => w_witness2
  case hc =>
    refine G8.walked (l := PySem.Challenge.rw_allwritings_k91_whole_morse_and_loreti) (n := 63) (k := 10) (x := "law") (p := "script") rfl (by decide) (by kernel_rfl) ⟨rfl, by decide, by decide⟩ fun w mg f h Y G hf => ?_
    have e : (HandSHeadRun.topDef K91.R.prog 53).name = ("law" : PySem.Str) := by kernel_rfl
    exact K91.told G (by rw [← e]; exact hf) Y
