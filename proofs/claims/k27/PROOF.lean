import PyProof.Rows.All
import Wide.All
import OpenK.AllK
import Wide.FinOn
import HandS.ForMost
import HandS.Wide
import HandS.WideBits
import HandS.IsInst
import HandS.Defaults
import HandS.Style
import HandS.OwnEq
import HandS.More
import KE.KOpsOwn
import KE.KFmtOwn
import HandS.ForExc
import HandS.Small
import HandS.ExcInit
import HandS.Nested
import KE.KExcSuper
import HandS.Lambda
import HandS.EndTab
import HandS.ExcField
import HandS.DictComp
import OpenK.KMeth
import KE.KNestM
import PyProof.StrBlock2
import KE.IntTextLaws
import HandS.ExcIs
import HandS.TryMany
import HandS.TryOnly
import HandS.SortInts
import HandS.CallLocal
import PySem.Challenge.RW_dealtsums_k27_shifts
set_option Elab.async false
set_option linter.all false
set_option maxRecDepth 100000
set_option maxHeartbeats 4000000
namespace DS
open PySem L2
/-! ### heaps -/
/-- what never changes once it is made: all but dicts -/
def stab : HO → Bool
  | .dK _ => false
  | _ => true
def Keep (H H' : Hp) : Prop := ∀ b o, H b = some o → stab o = true → H' b = some o
theorem Keep.refl (H : Hp) : Keep H H := fun _ _ h _ => h
theorem Keep.trans {H H1 H2 : Hp} (a : Keep H H1) (b : Keep H1 H2) : Keep H H2 := fun c o h s => b c o (a c o h s) s
theorem Keep.of {H H' : Hp} (s : Same H H') : Keep H H' := fun b o h _ => s b o h
theorem Same.keep {H H1 H2 : Hp} (a : Same H H1) (b : Keep H1 H2) : Keep H H2 := (Keep.of a).trans b
theorem Keep.same {H H1 H2 : Hp} (a : Keep H H1) (b : Same H1 H2) : Keep H H2 := a.trans (Keep.of b)
theorem same_upd {H : Hp} {p : Addr} {o : HO} (h : H p = none) : Same H (upd H p o) := fun b x e => by
  rw [upd_ne (ne_of_none e h)]
  exact e
theorem keep_dict {H : Hp} {p : Addr} {kvs kvs' : List (Key × V)} (h : H p = some (.dK kvs)) : Keep H (upd H p (.dK kvs')) := fun b o e s => by
  have n : b ≠ p := fun z => by
    subst z
    rw [h] at e
    cases e
    cases s
  rw [upd_ne n]
  exact e
/-! ### steps of a reading -/
section
variable {σ : St} {H : Hp} {Q : VK} {D : Ends} {t u : TS} {te ta tb tc : TE} {g : TG} {c c' : TT} {x y v : V} {i : Nat} {r r' : R2} {tl tr : TA}
theorem w_seq (h : t { D with nx := u D } σ H) : tSeq t u D σ H := h
theorem w_next (h : D.nx σ H) : tNext D σ H := h
theorem w_brk (h : D.bk σ H) : tBreak D σ H := h
theorem w_cont (h : D.ct σ H) : tCont D σ H := h
theorem w_asg (h : te σ H fun x H1 => g x σ H1 D.nx) : tAsg te g D σ H := h
theorem w_name {R : St → Hp → Prop} (h : R (σ.set i (some v)) H) : gName i v σ H R := h
theorem w_par {j : Nat} (h : tl σ H fun vs H1 => ∃ v w, vs = [v, w] ∧ D.nx ((σ.set i (some v)).set j (some w)) H1) : tPar i j tl D σ H := h
theorem w_two {w : V} {P : V → V → Prop} (h : P v w) : ∃ v' w', [v, w] = [v', w'] ∧ P v' w' := ⟨v, w, rfl, h⟩
theorem w_three {w z : V} {P : V → V → V → Prop} (h : P v w z) : ∃ v' w' z', [v, w, z] = [v', w', z'] ∧ P v' w' z' := ⟨v, w, z, rfl, h⟩
theorem w_par3 {j l : Nat} (h : tl σ H fun vs H1 => ∃ v w z, vs = [v, w, z] ∧ D.nx (((σ.set i (some v)).set j (some w)).set l (some z)) H1) : tPar3 i j l tl D σ H := h
theorem w_ret (h : te σ H D.rt) : tRet te D σ H := h
theorem w_retN (h : D.rt .non H) : tRetN D σ H := h
theorem w_drop (h : te σ H fun _ H1 => D.nx σ H1) : tDrop te D σ H := h
theorem w_ifs (h : c σ H fun b H1 => if b = true then t D σ H1 else u D σ H1) : tIfS c t u D σ H := h
theorem w_var (e : σ[i]? = some (some v)) (h : Q v H) : tVar i σ H Q := ⟨v, e, h⟩
theorem w_c (h : Q v H) : tC v σ H Q := h
theorem w_op (h : ta σ H fun x H1 => tb σ H1 fun y H2 => r x y H2 Q) : tOp r ta tb σ H Q := h
theorem w_un {r : V → Hp → VK → Prop} (h : ta σ H fun x H1 => r x H1 Q) : tUn r ta σ H Q := h
theorem w_I0 {g : Int → Int → V} {i j : Int} (h : Q (g i j) H) : rI0 g (.int i) (.int j) H Q := ⟨i, j, rfl, rfl, h⟩
theorem w_I {C : Int → Int → Prop} {g : Int → Int → V} {i j : Int} (k : C i j) (h : Q (g i j) H) : rI C g (.int i) (.int j) H Q := ⟨i, j, rfl, rfl, k, h⟩
theorem w_U {g : Int → V} {i : Int} (h : Q (g i) H) : rU g (.int i) H Q := ⟨i, rfl, h⟩
theorem w_test {R : Bool → Hp → Prop} (h : te σ H fun x H' => ∃ k, x = .bl k ∧ R k H') : tTest te σ H R := h
theorem w_B {R : Bool → Hp → Prop} (h : te σ H fun x H' => ∃ k, x = .bl k ∧ R k H') : tB te σ H R := h
theorem w_k {k : Bool} {P : Bool → Prop} (h : P k) : ∃ k', V.bl k = .bl k' ∧ P k' := ⟨k, rfl, h⟩
theorem w_eq (s : scal x y = true) (h : Q (.bl (decide (x = y))) H) : rEq x y H Q := ⟨s, h⟩
theorem w_ne (s : scal x y = true) (h : Q (.bl (!decide (x = y))) H) : rNe x y H Q := ⟨s, h⟩
theorem w_isN (h : Q (.bl (decide (x = .non))) H) : (V.non = .non ∧ Q (.bl (decide (x = .non))) H) := ⟨rfl, h⟩
theorem w_notN (h : Q (.bl (!decide (x = .non))) H) : (V.non = .non ∧ Q (.bl (!decide (x = .non))) H) := ⟨rfl, h⟩
theorem w_not {R : Bool → Hp → Prop} (h : c σ H fun b H1 => R (!b) H1) : tNot c σ H R := h
theorem w_and {R : Bool → Hp → Prop} (h : c σ H fun b H1 => if b = true then c' σ H1 R else R false H1) : tAnd c c' σ H R := h
theorem w_or {R : Bool → Hp → Prop} (h : c σ H fun b H1 => if b = true then R true H1 else c' σ H1 R) : tOr c c' σ H R := h
theorem w_andV (h : ta σ H fun x H1 => ∃ k, x = .bl k ∧ if k = true then tb σ H1 Q else Q (.bl false) H1) : tAndV ta tb σ H Q := h
theorem w_orV (h : ta σ H fun x H1 => ∃ k, x = .bl k ∧ if k = true then Q (.bl true) H1 else tb σ H1 Q) : tOrV ta tb σ H Q := h
theorem w_notV (h : ta σ H fun x H1 => ∃ k, x = .bl k ∧ Q (.bl (!k)) H1) : tNotV ta σ H Q := h
theorem w_if (h : c σ H fun b H1 => if b = true then ta σ H1 Q else tb σ H1 Q) : tIf c ta tb σ H Q := h
theorem w_chain (h : ta σ H fun x H1 => tb σ H1 fun y H2 => r x y H2 fun z H3 => ∃ k, z = .bl k ∧ (if k = true then tc σ H3 fun w' H4 => r' y w' H4 Q else Q (.bl false) H3)) : tChain r r' ta tb tc σ H Q := h
theorem w_cons {R : List V → Hp → Prop} (h : ta σ H fun x H1 => tr σ H1 fun xs H2 => R (x :: xs) H2) : tCons ta tr σ H R := h
theorem w_nil {R : List V → Hp → Prop} (h : R [] H) : tNil σ H R := h
theorem w_cb {r : List V → Hp → VK → Prop} (h : tl σ H fun vs H1 => r vs H1 Q) : tCB r tl σ H Q := h
theorem w_call {sp : Sp} {dvs : List V} {E : XK} (h : tl σ H fun vs H1 => sp (vs ++ dvs) H1 Q E) : tCall sp dvs E tl σ H Q := h
theorem w_tup (h : ∀ Q' : VK, Q' = Q → tl σ H fun xs H1 => xs.length ≤ sizeLine ∧ ∀ p, H1 p = none → Q' (.ref p) (upd H1 p (.tup xs))) : tTup tl σ H Q := h Q rfl
theorem w_lst (h : ∀ Q' : VK, Q' = Q → tl σ H fun xs H1 => xs.length ≤ sizeLine ∧ ∀ p, H1 p = none → Q' (.ref p) (upd H1 p (.lst xs))) : tLst tl σ H Q := h Q rfl
theorem w_new {o : HO} {n : Nat} {Q' : VK} (e : Q' = Q) (l : n ≤ sizeLine) (h : ∀ p H', H p = none → Same H H' → H' p = some o → Q (.ref p) H') : n ≤ sizeLine ∧ ∀ p, H p = none → Q' (.ref p) (upd H p o) := by
  subst e
  exact ⟨l, fun p hp => h p _ hp (same_upd hp) upd_same⟩
theorem w_newA {o : HO} {Q' : VK} (e : Q' = Q) (h : ∀ p H', H p = none → Same H H' → H' p = some o → Q (.ref p) H') : ∀ p, H p = none → Q' (.ref p) (upd H p o) := by
  subst e
  exact fun p hp => h p _ hp (same_upd hp) upd_same
theorem w_int1 {n : Int} {P : Int → Prop} {R : Prop} (h : P n) : (∃ i, [V.int n] = [.int i] ∧ P i) ∨ R := .inl ⟨n, rfl, h⟩
theorem w_int1b {b : Bool} {P : Bool → Prop} {R : Prop} (h : P b) : R ∨ ∃ k, [V.bl b] = [.bl k] ∧ P k := .inr ⟨b, rfl, h⟩
theorem w_lenL {K : PySem.W.Frag} {p : Addr} {xs : List V} {P : List V → Prop} (e : H p = some (.lst xs)) (h : P xs) : ∃ q ys, [V.ref p] = [.ref q] ∧ (SqL K H q ys ∨ SqT K H q ys) ∧ P ys := ⟨p, xs, rfl, .inl (.inl (.inl e)), h⟩
theorem w_lenT {K : PySem.W.Frag} {p : Addr} {xs : List V} {P : List V → Prop} (e : H p = some (.tup xs)) (h : P xs) : ∃ q ys, [V.ref p] = [.ref q] ∧ (SqL K H q ys ∨ SqT K H q ys) ∧ P ys := ⟨p, xs, rfl, .inr (.inl (.inl e)), h⟩
theorem w_one {R : Int → Prop} {n : Int} (h : R n) : ∃ i, [V.int n] = [.int i] ∧ R i := ⟨n, rfl, h⟩
theorem w_ixL {K : PySem.W.Frag} {p : Addr} {xs : List V} {n : Int} (e : H p = some (.lst xs)) (a : atI xs n = some v) (h : Q v H) : rIxL K (.ref p) (.int n) H Q := ⟨p, xs, n, v, rfl, rfl, .inl (.inl e), a, h⟩
theorem w_ixT {K : PySem.W.Frag} {p : Addr} {xs : List V} {n : Int} (e : H p = some (.tup xs)) (a : atI xs n = some v) (h : Q v H) : rIxT K (.ref p) (.int n) H Q := ⟨p, xs, n, v, rfl, rfl, .inl (.inl e), a, h⟩
theorem w_fld {K : PySem.W.Frag} {f : Str} (h : ta σ H fun x H1 => ∃ a C dx fs v, x = .ref a ∧ H1 a = some (.ins C dx fs) ∧ Cls K C ∧ NoAttr K C f ∧ fs.lookup f = some v ∧ Q v H1) : tFld K ta f σ H Q := h
theorem w_dget (h : ta σ H fun x H1 => tb σ H1 fun y H2 => ∃ a v, x = .ref a ∧ DGet H2 a y (some v) ∧ Q v H2) : tDGet ta tb σ H Q := h
theorem w_dg {d : Addr} {kvs : List (Key × V)} {z : Str} {P : V → Prop} (e : H d = some (.dK kvs)) (a : valV kvs (Sum.inr z) = some v) (h : P v) : ∃ a v, V.ref d = .ref a ∧ DGet H a (.str z) (some v) ∧ P v := ⟨d, v, rfl, a ▸ DGet.k (k := Sum.inr z) e, h⟩
theorem w_dput (h : tc σ H fun v H1 => ta σ H1 fun x H2 => tb σ H2 fun y H3 => ∃ a H4, x = .ref a ∧ DPut H3 a y v H4 ∧ D.nx σ H4) : sDPut ta tb tc D σ H := h
theorem w_dp {d : Addr} {kvs : List (Key × V)} {z : Str} {R : Hp → Prop} (e : H d = some (.dK kvs)) (l : kvs.length < sizeLine) (h : R (upd H d (.dK (putK kvs (Sum.inr z) v)))) : ∃ a H4, V.ref d = .ref a ∧ DPut H a (.str z) v H4 ∧ R H4 := ⟨d, _, rfl, DPut.k (k := Sum.inr z) e l, h⟩
theorem w_meth {C : Addr} {m : Str} {sp : Sp} {dvs : List V} {E : XK} (h : ta σ H fun x H1 => ∃ a dx fs, x = .ref a ∧ H1 a = some (.ins C dx fs) ∧ fs.lookup m = none ∧ tl σ H1 fun vs H2 => sp (x :: (vs ++ dvs)) H2 Q E) : tMeth C m sp dvs E ta tl σ H Q := h
theorem w_make {C : Addr} {sp : Sp} {dvs : List V} {E : XK} (h : ∀ Q' : VK, Q' = Q → tl σ H fun vs H1 => ∀ x dx, H1 x = none → H1 dx = none → dx ≠ x → sp (.ref x :: (vs ++ dvs)) (upd (upd H1 dx (.own x)) x (.ins C dx [])) (fun v H2 => v = .non ∧ Q' (.ref x) H2) E) : tMake C sp dvs E tl σ H Q := h Q rfl
theorem w_gtup {K : PySem.W.Frag} {n : Nat} {ts : TGs} {R : St → Hp → Prop} {a : Addr} {xs : List V} (e : H a = some (.tup xs)) (l : xs.length = n) (h : ts xs σ H R) : gTup K n ts (.ref a) σ H R := ⟨a, xs, rfl, .inl (.inl e), l, h⟩
theorem w_gcons {g : TG} {gs : TGs} {xs : List V} {R : St → Hp → Prop} (h : g v σ H fun σ' H' => gs xs σ' H' R) : gCons g gs (v :: xs) σ H R := ⟨v, xs, rfl, h⟩
theorem w_gnil {R : St → Hp → Prop} (h : R σ H) : gNil [] σ H R := ⟨rfl, h⟩
theorem w_ite {p A B : Prop} [Decidable p] (h1 : p → A) (h2 : ¬ p → B) : if decide p = true then A else B := by
  by_cases h : p
  · rw [decide_eq_true h]; exact iteT (h1 h)
  · rw [decide_eq_false h]; exact iteF (h2 h)
theorem w_iteN {p A B : Prop} [Decidable p] (h1 : ¬ p → A) (h2 : p → B) : if (!decide p) = true then A else B := by
  by_cases h : p
  · rw [decide_eq_true h]; exact iteF (h2 h)
  · rw [decide_eq_false h]; exact iteT (h1 h)
theorem w_iteB {b : Bool} {A B : Prop} (h1 : b = true → A) (h2 : b = false → B) : if b = true then A else B := by
  cases b with
  | true => exact iteT (h1 rfl)
  | false => exact iteF (h2 rfl)
end
/-! ### products of any size -/
def CMulA (i j : Int) : Prop := CMul i j ∨ CMulW i j
theorem CMulA.s1 {i j : Int} (h : -(2 ^ 64) < i) (h2 : i < 2 ^ 64) : CMulA i j := .inl (.inl ⟨h, h2⟩)
theorem CMulA.s2 {i j : Int} (h : -(2 ^ 64) < j) (h2 : j < 2 ^ 64) : CMulA i j := .inl (.inr ⟨h, h2⟩)
section
variable {X : Cx}
theorem op_mulA : OpR X (binaryOp .Mult) (rI CMulA fun i j => .int (i * j)) := by
  intro pins s σ H x y v u Q I rx ry h
  obtain ⟨i, j, ex, ey, hc, q⟩ := h
  rcases hc with hc | hc
  · exact op_mul pins s σ H x y v u Q I rx ry ⟨i, j, ex, ey, hc, q⟩
  · exact op_mulW pins s σ H x y v u Q I rx ry ⟨i, j, ex, ey, hc, q⟩
end
theorem V_int {i j : Int} : (V.int i = V.int j) = (i = j) := by simp
theorem V_str {i j : Str} : (V.str i = V.str j) = (i = j) := by simp
theorem V_bl {i j : Bool} : (V.bl i = V.bl j) = (i = j) := by simp
end DS
namespace DS
open PySem L2
theorem hu64_of {A : Around} {k : Nat} (hr : Room k A) : A.units + 64 < cLine := hr.units
theorem log_lt {m : Int} {a b : Nat} (h0 : 0 < m) (h : m < 2 ^ a) (hab : a ≤ b) : m.natAbs.log2 < b := by
  have h1 : m.natAbs < 2 ^ a := by
    have e : ((m.natAbs : Nat) : Int) = m := Int.natAbs_of_nonneg (by omega)
    have h2 : ((m.natAbs : Nat) : Int) < ((2 ^ a : Nat) : Int) := by
      rw [e]
      exact_mod_cast h
    exact Int.ofNat_lt.mp h2
  have ha : 0 < a := by
    rcases Nat.eq_zero_or_pos a with z | z
    · subst z
      have : m < 1 := h
      omega
    · exact z
  exact Nat.lt_of_lt_of_le (PySem.Flt.log2_lt_of ha h1) hab
end DS
namespace DS
open PySem L2
theorem dp_ints {K : PySem.W.Frag} {H : Hp} : ∀ ns : List Int, DpAll K H (ns.map V.int) (ns.map PyData.int)
  | [] => .nil
  | n :: r => .cons (.int n) (dp_ints r)
theorem lay_ints : ∀ ns : List Int, PyData.canLayAll0 (ns.map PyData.int) = true
  | [] => rfl
  | n :: r => by
    show (PyData.canLay0 (.int n) && PyData.canLayAll0 (r.map PyData.int)) = true
    rw [lay_ints r]
    rfl
theorem deep_ints : ∀ ns : List Int, PyData.depthAll (ns.map PyData.int) = 0
  | [] => rfl
  | n :: r => by
    show max (PyData.depth (.int n)) (PyData.depthAll (r.map PyData.int)) = 0
    rw [deep_ints r]
    rfl
theorem shaped_ints (ns : List Int) : SeqAt.shaped (.list (ns.map PyData.int)) = true := by
  show (PyData.canLayAll0 (ns.map PyData.int) && decide (PyData.depthAll (ns.map PyData.int) + 1 ≤ 64)) = true
  rw [lay_ints, deep_ints]
  rfl
theorem w_neNil {K : PySem.W.Frag} {H : Hp} {Q : VK} {p q : Addr} {ns : List Int} (hp : H p = some (.lst (ns.map V.int))) (hq : H q = some (.lst [])) (h : Q (.bl (!ns.isEmpty)) H) : rNeD K (.ref p) (.ref q) H Q := by
  refine ⟨.list (ns.map PyData.int), .list [], .lst (.inl (.inl hp)) (dp_ints ns), .lst (.inl (.inl hq)) .nil, shaped_ints ns, rfl, ?_⟩
  cases ns <;> exact h
theorem at_ints {ns : List Int} {i : Int} (h0 : 0 ≤ i) (h1 : i < ns.length) : ∃ z, atI (ns.map V.int) i = some (.int z) := by
  obtain ⟨j, rfl⟩ := Int.eq_ofNat_of_zero_le h0
  have hj : j < ns.length := by omega
  refine ⟨ns[j], atI_nat ?_⟩
  rw [List.getElem?_map, List.getElem?_eq_getElem hj]
  rfl
theorem at_any {xs : List V} {i : Int} (h0 : 0 ≤ i) (h1 : i < xs.length) : ∃ v, atI xs i = some v ∧ v ∈ xs := by
  obtain ⟨j, rfl⟩ := Int.eq_ofNat_of_zero_le h0
  have hj : j < xs.length := by omega
  exact ⟨xs[j], atI_nat (List.getElem?_eq_getElem hj), List.getElem_mem hj⟩
theorem iteFF {A B : Prop} (h : B) : if (false = true) then A else B := iteF h
end DS
namespace DS
open PySem L2
section
variable {σ : St} {H : Hp} {Q : VK} {D : Ends} {tb : TS} {g : TG} {c : TT} {wi : TI} {tl : TA}
theorem w_for (h : wi σ H fun J H1 => ∃ W : Nat → Nat → St → Hp → Prop, (∃ m, W 0 m σ H1) ∧ ∀ i m σ H, W i m σ H →
  (J.stop i H ∧ D.nx σ H) ∨ (J.go i H ∧ ∃ N : St → Hp → Prop, (∀ σ' H', N σ' H' → ∃ m', m' < m ∧ W (i + 1) m' σ' H') ∧ ∀ x H', J.yld i H x H' → g x σ H' fun σ2 H2 => tb { D with nx := N, ct := N, bk := D.nx } σ2 H2)) : tFor wi g tb D σ H := h
theorem w_irng1 {R : It → Hp → Prop} (h : tl σ H fun vs H1 => ∃ j : Int, vs = [.int j] ∧ -(2 ^ 62) ≤ j ∧ j < 2 ^ 62 ∧ R (Itr 0 j.toNat) H1) : iRng1 tl σ H R := h
theorem w_irng2 {R : It → Hp → Prop} (h : tl σ H fun vs H1 => ∃ i j : Int, vs = [.int i, .int j] ∧ (-(2 ^ 62) ≤ i ∧ i < 2 ^ 62 ∧ -(2 ^ 62) ≤ j ∧ j < 2 ^ 62) ∧ R (Itr i (j - i).toNat) H1) : iRng2 tl σ H R := h
theorem w_rng1 {j : Int} {P : Int → Prop} (h0 : -(2 ^ 62) ≤ j) (h1 : j < 2 ^ 62) (h : P j) : ∃ j' : Int, [V.int j] = [.int j'] ∧ -(2 ^ 62) ≤ j' ∧ j' < 2 ^ 62 ∧ P j' := ⟨j, rfl, h0, h1, h⟩
theorem w_rng2 {i j : Int} {P : Int → Int → Prop} (h0 : -(2 ^ 62) ≤ i ∧ i < 2 ^ 62 ∧ -(2 ^ 62) ≤ j ∧ j < 2 ^ 62) (h : P i j) : ∃ i' j' : Int, [V.int i, V.int j] = [.int i', .int j'] ∧ (-(2 ^ 62) ≤ i' ∧ i' < 2 ^ 62 ∧ -(2 ^ 62) ≤ j' ∧ j' < 2 ^ 62) ∧ P i' j' := ⟨i, j, rfl, h0, h⟩
/-- a while whose test is evaluated by a rule of one's own at each turn -/
theorem w_while (h : ∃ W : Nat → St → Hp → Prop, (∃ m, W m σ H) ∧ ∀ m σ H, W m σ H → c σ H fun b H1 => if b = true then ∃ N : St → Hp → Prop, (∀ σ' H', N σ' H' → ∃ m', m' < m ∧ W m' σ' H') ∧ tb { D with nx := N, ct := N, bk := D.nx } σ H1 else D.nx σ H1) : tWhile c tb D σ H := h
end
theorem pow_wide {a : Int} {n m : Nat} (h : a.natAbs < 2 ^ n) (hm : n ≤ m) : a.natAbs < 2 ^ m := Nat.lt_of_lt_of_le h (Nat.pow_le_pow_right (by decide) hm)
theorem CMulA.w {i j : Int} {a b : Nat} (ha : i.natAbs < 2 ^ a) (hb : j.natAbs < 2 ^ b) (h : a + b ≤ 999998) : CMulA i j :=
  .inr (wide_mul (a := a + 1) (b := b + 1) (pow_wide ha (by omega)) (pow_wide hb (by omega)) (by omega) (by omega) (by omega))
theorem ten_lt (n : Nat) : ((10 : Int) ^ n).natAbs < 2 ^ (4 * n + 1) := by
  rw [Int.natAbs_pow]
  show 10 ^ n < _
  have h : 10 ^ n ≤ 16 ^ n := Nat.pow_le_pow_left (by decide) n
  have e : (2 : Nat) ^ (4 * n + 1) = 16 ^ n * 2 := by rw [Nat.pow_succ, Nat.pow_mul]
  have p : 0 < 16 ^ n := Nat.pow_pos (by decide)
  omega
end DS
namespace DS
open PySem L2
section
variable {σ : St} {H : Hp} {Q : VK} {D : Ends} {tk tv te : TE} {trs : List (TE × TE)} {tl th : TO}
theorem w_disp (h : ∀ Q' : VK, Q' = Q → ∀ p H1, H p = none → Same H H1 → H1 p = some (.dK []) → tPairs trs σ H1 fun ps H2 => H2 p = some (.dK []) ∧ ∃ kvs : List (Key × V), ps = kvs.map (fun kv => (kV kv.1, kv.2)) ∧ kvs.length ≤ 15 ∧ Q' (.ref p) (upd H2 p (.dK (mergeK [] kvs)))) : tDisp trs σ H Q :=
  fun p hp => h Q rfl p _ hp (same_upd hp) upd_same
theorem w_pnil {R : List (V × V) → Hp → Prop} (h : R [] H) : tPairs [] σ H R := h
theorem w_pcons {R : List (V × V) → Hp → Prop} (h : tk σ H fun x H1 => tv σ H1 fun y H2 => tPairs trs σ H2 fun ps H3 => R ((x, y) :: ps) H3) : tPairs ((tk, tv) :: trs) σ H R := h
theorem w_dend {Q' : VK} {p : Addr} {ps : List (V × V)} (kvs : List (Key × V)) (e : Q' = Q) (h0 : H p = some (.dK [])) (e2 : ps = kvs.map (fun kv => (kV kv.1, kv.2))) (l : kvs.length ≤ 15)
    (h : ∀ H', Keep H H' → (∀ H0, Same H0 H → H0 p = none → Same H0 H') → H' p = some (.dK (mergeK [] kvs)) → Q (.ref p) H') :
    H p = some (.dK []) ∧ ∃ kvs : List (Key × V), ps = kvs.map (fun kv => (kV kv.1, kv.2)) ∧ kvs.length ≤ 15 ∧ Q' (.ref p) (upd H p (.dK (mergeK [] kvs))) := by
  subst e
  refine ⟨h0, kvs, e2, l, h _ (keep_dict h0) (fun H0 s n b o z => ?_) upd_same⟩
  rw [upd_ne (ne_of_none z n)]
  exact s b o z
theorem w_sl {r : V → Option Int → Option Int → Hp → VK → Prop} (h : te σ H fun x H1 => tl σ H1 fun l H2 => th σ H2 fun u H3 => r x l u H3 Q) : tSl r te tl th σ H Q := h
theorem w_nopart {R : Option Int → Hp → Prop} (h : R none H) : tNoPart σ H R := h
end
theorem w_list {K : PySem.W.Frag} {H : Hp} {p : Addr} {xs : List V} {P : List V → Prop} (e : SqL K H p xs ∨ SqT K H p xs) (h : P xs) : ∃ q ys, [V.ref p] = [.ref q] ∧ (SqL K H q ys ∨ SqT K H q ys) ∧ P ys := ⟨p, xs, rfl, e, h⟩
end DS
namespace DS
open PySem L2
theorem w_part {σ : St} {H : Hp} {te : TE} {R : Option Int → Hp → Prop} (h : te σ H fun x H1 => ∃ i, x = .int i ∧ R (some i) H1) : tPart te σ H R := h
theorem w_i {n : Int} {P : Int → Prop} (h : P n) : ∃ i, V.int n = .int i ∧ P i := ⟨n, rfl, h⟩
theorem w_slL {K : PySem.W.Frag} {H : Hp} {Q : VK} {p : Addr} {xs : List V} {lo hi : Option Int} (e : SqL K H p xs) (h : ∀ q H', H q = none → Same H H' → H' q = some (.lst (cutV xs lo hi)) → Q (.ref q) H') : rSlL K (.ref p) lo hi H Q :=
  ⟨p, xs, rfl, e, fun q hq => h q _ hq (same_upd hq) upd_same⟩
theorem w_listof {K : PySem.W.Frag} {H : Hp} {Q : VK} {p : Addr} {xs : List V} (e : SqL K H p xs ∨ SqT K H p xs) (h : ∀ q H', H q = none → Same H H' → H' q = some (.lst xs) → Q (.ref q) H') : ∃ p' ys, [V.ref p] = [.ref p'] ∧ (SqL K H p' ys ∨ SqT K H p' ys) ∧ ∀ l, H l = none → Q (.ref l) (upd H l (.lst ys)) :=
  ⟨p, xs, rfl, e, fun q hq => h q _ hq (same_upd hq) upd_same⟩
theorem cut_ints (ns : List Int) (lo hi : Option Int) : ∃ ms : List Int, cutV (ns.map V.int) lo hi = ms.map V.int ∧ ms.length ≤ ns.length := by
  unfold cutV
  refine ⟨(ns.drop (HT.sIx ns.length 0 lo)).take (HT.sIx ns.length ns.length hi - HT.sIx ns.length 0 lo), ?_, ?_⟩
  · rw [List.length_map, List.map_take, List.map_drop]
  · rw [List.length_take, List.length_drop]
    omega
end DS
namespace DS
open PySem L2 PyProof.Rows
/-- o.f = .. as a target -/
def gFld (K : PySem.W.Frag) (to : TE) (f : Str) : TG := fun v σ H Q => to σ H fun x H1 => ∃ a C dx fs, x = .ref a ∧ H1 a = some (.ins C dx fs) ∧ Cls K C ∧ NoAttr K C f ∧ fs.length < 1000 ∧ Q σ (upd H1 a (.ins C dx (putF f v fs)))
theorem pg_attr {X : Cx} {o : Expr} {f : Str} {pos : Pos} {to : TE} (ho : PE X o to)
    (ha : ∀ v, assign (.Attribute o f pos) X.env v = (do
      let ov ← holding [v] (eval o X.env)
      standAt pos.atName
      holding [v, ov] (setAttr ov f v)
      release [v, ov] []) := by intro _; rfl) : PG X (.Attribute o f pos) (gFld X.K to f) := by
  refine ⟨fun pins s σ H v u Q I r h => ?_⟩
  rw [ha]
  refine wpAny_bind (wpAny_holding (thn (ho.run pins s σ H _ I h) fun ov s1 ⟨x, H1, I1, r1, a, C, dx, fs, ex, ea, c, n, l, q1⟩ => ?_))
  subst ex
  obtain rfl : ov = Value.ref a := r1
  refine wpAny_bind (wpAny_standAt (wpAny_bind (wpAny_holding (setattr_ok I1 ea c n l r fun s3 I3 => ?_))))
  exact wpAny_release ⟨σ, _, I3, q1⟩
theorem w_gfld {K : PySem.W.Frag} {to : TE} {f : Str} {v : V} {σ : L2.St} {H : Hp} {Q : L2.St → Hp → Prop} (h : to σ H fun x H1 => ∃ a C dx fs, x = .ref a ∧ H1 a = some (.ins C dx fs) ∧ Cls K C ∧ NoAttr K C f ∧ fs.length < 1000 ∧ Q σ (upd H1 a (.ins C dx (putF f v fs)))) : gFld K to f v σ H Q := h
theorem w_sfld {K : PySem.W.Frag} {ta tv : TE} {f : Str} {D : Ends} {σ : L2.St} {H : Hp} (h : tv σ H fun y H1 => ta σ H1 fun x H2 => ∃ a C dx fs, x = .ref a ∧ H2 a = some (.ins C dx fs) ∧ Cls K C ∧ NoAttr K C f ∧ fs.length < 1000 ∧ D.nx σ (upd H2 a (.ins C dx (putF f y fs)))) : sFld K ta tv f D σ H := h
theorem w_isiB {K : PySem.W.Frag} {H : Hp} {x : V} {a b : String} {r : Bool} {P : Bool → Prop} (ty : TyX K H x (.type a)) (k : kitB a b = some r) (h : P r) :
    ∃ (x' c : V) (t u : Value) (b' : Bool), [x, V.ty b] = [x', c] ∧ ClsV c u ∧ TyX K H x' t ∧ PySem.W.kitOne K t u = some b' ∧ P b' := ⟨x, .ty b, _, _, r, rfl, .ty b, ty, kit_ty k, h⟩
theorem w_isi {K : PySem.W.Frag} {H : Hp} {x c : V} {t u : Value} {r : Bool} {P : Bool → Prop} (cl : ClsV c u) (ty : TyX K H x t) (k : PySem.W.kitOne K t u = some r) (h : P r) :
    ∃ (x' c' : V) (t u : Value) (b' : Bool), [x, c] = [x', c'] ∧ ClsV c' u ∧ TyX K H x' t ∧ PySem.W.kitOne K t u = some b' ∧ P b' := ⟨x, c, t, u, r, rfl, cl, ty, k, h⟩
theorem w_risi {K : PySem.W.Frag} {H : Hp} {Q : VK} {xs : List V} (h : ∃ (x c : V) (t u : Value) (b : Bool), xs = [x, c] ∧ ClsV c u ∧ TyX K H x t ∧ PySem.W.kitOne K t u = some b ∧ Q (.bl b) H) : rIsi K xs H Q := h
/-- is a value of the kind T -/
def IsI (K : PySem.W.Frag) (H : Hp) (v : V) (T : String) (r : Bool) : Prop := ∃ t, TyX K H v t ∧ PySem.W.kitOne K t (.type T) = some r
theorem w_isI {K : PySem.W.Frag} {H : Hp} {x : V} {b : String} {r : Bool} {P : Bool → Prop} (i : IsI K H x b r) (h : P r) :
    ∃ (x' c : V) (t u : Value) (b' : Bool), [x, V.ty b] = [x', c] ∧ ClsV c u ∧ TyX K H x' t ∧ PySem.W.kitOne K t u = some b' ∧ P b' := by
  obtain ⟨t, ty, k⟩ := i
  exact ⟨x, .ty b, t, _, r, rfl, .ty b, ty, k, h⟩
def IntLike (K : PySem.W.Frag) (H : Hp) (v : V) (b : Bool) : Prop := ∃ r1 r2, IsI K H v "int" r1 ∧ IsI K H v "bool" r2 ∧ b = (r1 && !r2)
theorem intLike_int {K : PySem.W.Frag} {H : Hp} {n : Int} : IntLike K H (.int n) true :=
  ⟨true, false, ⟨_, .base (.int n), kit_ty (by decide +kernel)⟩, ⟨_, .base (.int n), kit_ty (by decide +kernel)⟩, rfl⟩
end DS
namespace DS
open PySem L2
/-- a worth's own form -/
def nrm : Int → Nat → Int × Nat
  | u, 0 => (u, 0)
  | u, s + 1 => if u % 10 = 0 then nrm (u / 10) s else (u, s + 1)
theorem nrm_zero : ∀ s : Nat, nrm 0 s = (0, 0)
  | 0 => rfl
  | s + 1 => by
    show (if (0 : Int) % 10 = 0 then nrm (0 / 10) s else (0, s + 1)) = (0, 0)
    rw [if_pos (by decide)]
    exact nrm_zero s
theorem nrm_pos {u : Int} {s : Nat} (h : u % 10 = 0) : nrm u (s + 1) = nrm (u / 10) s := by
  show (if u % 10 = 0 then nrm (u / 10) s else (u, s + 1)) = _
  rw [if_pos h]
theorem nrm_neg {u : Int} {s : Nat} (h : ¬ u % 10 = 0) : nrm u s = (u, s) := by
  cases s with
  | zero => rfl
  | succ s =>
    show (if u % 10 = 0 then nrm (u / 10) s else (u, s + 1)) = _
    rw [if_neg h]
def wf (u : Int) (s : Nat) : List (Str × V) := [("units", .int (nrm u s).1), ("scale", .int ((nrm u s).2 : Int))]
theorem wf_units (u : Int) (s : Nat) : (wf u s).lookup ("units" : Str) = some (.int (nrm u s).1) := by
  unfold wf
  simp
theorem us_ne : ¬ (("scale" : Str) = "units") := by decide +kernel
theorem su_ne : ¬ (("units" : Str) = "scale") := by decide +kernel
theorem wf_scale (u : Int) (s : Nat) : (wf u s).lookup ("scale" : Str) = some (.int ((nrm u s).2 : Int)) := by
  unfold wf
  rw [List.lookup_cons, beq_eq_false_iff_ne.mpr us_ne]
  simp
theorem wf_put (a b : Int) : putF "scale" (.int b) (putF "units" (.int a) []) = ([("units", .int a), ("scale", .int b)] : List (Str × V)) := by
  show (if ("units" : Str) = "scale" then [(("units" : Str), V.int b)] else (("units" : Str), V.int a) :: putF "scale" (V.int b) []) = _
  rw [if_neg su_ne]
  rfl
def WAt (C : Addr) (H : Hp) (p : Addr) (u : Int) (s : Nat) : Prop := ∃ dx, H p = some (.ins C dx (wf u s))
theorem WAt.same {C : Addr} {H H' : Hp} {p : Addr} {u : Int} {s : Nat} (e : Same H H') (h : WAt C H p u s) : WAt C H' p u s := by
  obtain ⟨dx, h⟩ := h
  exact ⟨dx, e _ _ h⟩
theorem WAt.keep {C : Addr} {H H' : Hp} {p : Addr} {u : Int} {s : Nat} (e : Keep H H') (h : WAt C H p u s) : WAt C H' p u s := by
  obtain ⟨dx, h⟩ := h
  exact ⟨dx, e _ _ h rfl⟩
/-- __init__ of a worth -/
def sp_winit (C : Addr) : Sp := fun vs H Q _ => ∃ (p dx : Addr) (u : Int) (s : Nat), vs = [.ref p, .int u, .int s] ∧ H p = some (.ins C dx []) ∧
  ∀ H', H' p = some (.ins C dx (wf u s)) → (∀ b o, b ≠ p → H b = some o → H' b = some o) → Q .non H'
theorem make_worth {C : Addr} {H : Hp} {Q Q' : VK} {E : XK} {u : Int} {s : Nat} (e : Q' = Q) (h : ∀ x H', H x = none → Same H H' → WAt C H' x u s → Q (.ref x) H') :
    ∀ x dx, H x = none → H dx = none → dx ≠ x → sp_winit C (.ref x :: ([.int u, .int (s : Int)] ++ [])) (upd (upd H dx (.own x)) x (.ins C dx [])) (fun v H2 => v = .non ∧ Q' (.ref x) H2) E := by
  subst e
  intro x dx nx nd ne
  refine ⟨x, dx, u, s, rfl, upd_same, fun H' e k => ⟨rfl, h x H' nx (fun b o z => ?_) ⟨dx, e⟩⟩⟩
  have n1 : b ≠ x := ne_of_none z nx
  refine k b o n1 ?_
  rw [upd_ne n1, upd_ne (ne_of_none z nd)]
  exact z
theorem w_flds {K : PySem.W.Frag} {H : Hp} {p C dx : Addr} {fs : List (Str × V)} {f : Str} {v : V} {P : V → Prop} (e : H p = some (.ins C dx fs)) (cl : Cls K C) (n : NoAttr K C f) (l : fs.lookup f = some v) (h : P v) :
    ∃ a C dx fs v, V.ref p = .ref a ∧ H a = some (.ins C dx fs) ∧ Cls K C ∧ NoAttr K C f ∧ fs.lookup f = some v ∧ P v := ⟨p, C, dx, fs, v, rfl, e, cl, n, l, h⟩
end DS
namespace DS
open PySem L2 PyProof.Rows
/-- d.get(y, z), d a written dict -/
def tKGet2 (K : PySem.W.Frag) (d : Addr) (td ty tx : TE) : TE := fun σ H Q => td σ H fun x H1 => x = .ref d ∧ ty σ H1 fun y H2 => tx σ H2 fun z H3 => ∃ (k : Str) (r : Option Value), y = .str k ∧ PySem.W.nsIn K d k = some r ∧
  ((r = none ∧ Q z H3) ∨ ∃ u0 v0, r = some u0 ∧ RelV v0 u0 ∧ Q v0 H3)
theorem pe_kget2 {X : Cx} {d : Addr} {es : Array DictEntry} {n : Nat} {o e f : Expr} {apos cpos : Pos} {td ty tx : TE} (D : KDict X.K X.w d es n) (ho : PE X o td) (he : PE X e ty) (hf : PE X f tx) (m : M2 X o "get" apos e f cpos) :
    PE X (.Call (.Attribute o "get" apos) [e, f] [] cpos) (tKGet2 X.K d td ty tx) := by
  refine ⟨fun pins s σ H Q I h => ?_⟩
  refine wpAny_Call_method m.base m.few m.line PySem.F.plainAttrs_dict PySem.F.slot_dict_get PySem.F.type_dict_get (thn (ho.run pins s σ H _ I h) fun u s1 ⟨x, H1, I1, rx, ex, q1⟩ => ?_)
  subst ex
  obtain rfl : u = Value.ref d := rx
  refine ⟨kd_type D I1, fun b q => ?_, ?_⟩
  · cases q
    exact ⟨_, I1.kIn _ _ D.at_, rfl⟩
  rw [m.trees]
  refine Calls.callWith_builtin rfl (Calls.evalArgs_plain (Calls.spliced_cons (thn (he.run pins s1 σ H1 _ I1 q1) fun iv s2 ⟨y, H2, I2, ry, q2⟩ =>
    Calls.spliced_cons (thn (hf.run pins s2 σ H2 _ I2 q2) fun fv s3 ⟨z, H3, I3, rz, k, r, ey, g, q3⟩ => Calls.spliced_nil ?_))))
  subst ey
  obtain ⟨t, rfl⟩ := (show ∃ t, iv = Value.str k t from ry)
  have hm := PySem.W.mapOf_K (prog := X.prog) (w := X.w) I3.kIn D.at_ D.lit
  refine call_meetsIn PySem.F.slot_dict_get hm.typeIs PySem.F.entry_dict_get (PySem.F.args_dict_get_3 _ _ _) (meets_dict_get_default (strKind X.prog X.w) d (PySem.strKind_is X.prog X.w k t) D.low fv) ⟨_, hm, ?_⟩
  rw [PySem.W.find_K D.at_ g]
  rcases q3 with ⟨er, q3⟩ | ⟨u0, v0, er, r0, q3⟩
  · subst er
    exact ⟨z, H3, I3.tok _, rz, q3⟩
  · subst er
    exact ⟨v0, H3, I3.tok _, r0, q3⟩
end DS
namespace DS
open PySem L2 PyProof.Rows
/-- -x by the own __neg__ -/
def rNegOwn (C : Addr) (sp : Sp) (E : XK) : V → Hp → VK → Prop := fun x H Q => ∃ a dx fs, x = .ref a ∧ H a = some (.ins C dx fs) ∧ sp [.ref a] H Q E
theorem un_negOwn {X : Cx} {CX : CXT} {k : Nat} {f C : Addr} {fd : FuncData} {ps : List Str} {sp : Sp} {E : XK} (hm : Meth X.K C "__neg__" f) (F : FnOk X.prog X.w X.K X.mg X.base CX k f fd ps sp) (hr : Room k X.A) (hb : Binds X.K fd ps []) (hx : Passes CX X E) :
    UnR X (unaryOp .USub) (rNegOwn C sp E) := by
  intro pins s σ H x u Q I rx h
  obtain ⟨a, dx, fs, rfl, ea, q⟩ := h
  obtain rfl : u = Value.ref a := rx
  obtain ⟨mA, O, _⟩ := ins_get I.hok ea
  obtain ⟨od, J, _⟩ := O.look
  unfold unaryOp
  refine wpAny_holding ?_
  exact wpAny_bind (PySem.W.special_fn I.kIn J hm.at_ (beq_iff_eq.mp hm.fn) (wpAny_mono (run_fn (us := [.ref a]) (vs := [.ref a]) (dvs := []) (ds := []) F hr hb .nil hx I (.cons rfl .nil) q) (fun _ _ z => wpAny_pure z) fun _ _ z => z))
end DS
namespace DS
open PySem L2
/-- a loop over a tuple turn by turn -/
def unrollT (K : PySem.W.Frag) (a : Addr) (all : List V) (g : TG) (tb : TS) (D : Ends) : List V → St → Hp → Prop
  | [], σ, H => D.nx σ H
  | x :: xs, σ, H => g x σ H fun σ2 H2 => tb { D with nx := fun σ' H' => SqT K H' a all ∧ unrollT K a all g tb D xs σ' H', ct := fun σ' H' => SqT K H' a all ∧ unrollT K a all g tb D xs σ' H', bk := D.nx } σ2 H2
def unrollL (K : PySem.W.Frag) (a : Addr) (all : List V) (g : TG) (tb : TS) (D : Ends) : List V → St → Hp → Prop
  | [], σ, H => D.nx σ H
  | x :: xs, σ, H => g x σ H fun σ2 H2 => tb { D with nx := fun σ' H' => SqL K H' a all ∧ unrollL K a all g tb D xs σ' H', ct := fun σ' H' => SqL K H' a all ∧ unrollL K a all g tb D xs σ' H', bk := D.nx } σ2 H2
section
variable {K : PySem.W.Frag} {a : Addr} {all : List V} {g : TG} {tb : TS} {D : Ends} {σ : St} {H : Hp}
theorem w_unT0 (h : D.nx σ H) : unrollT K a all g tb D [] σ H := h
theorem w_unT {x : V} {xs : List V} (h : g x σ H fun σ2 H2 => tb { D with nx := fun σ' H' => SqT K H' a all ∧ unrollT K a all g tb D xs σ' H', ct := fun σ' H' => SqT K H' a all ∧ unrollT K a all g tb D xs σ' H', bk := D.nx } σ2 H2) : unrollT K a all g tb D (x :: xs) σ H := h
theorem w_unL0 (h : D.nx σ H) : unrollL K a all g tb D [] σ H := h
theorem w_unL {x : V} {xs : List V} (h : g x σ H fun σ2 H2 => tb { D with nx := fun σ' H' => SqL K H' a all ∧ unrollL K a all g tb D xs σ' H', ct := fun σ' H' => SqL K H' a all ∧ unrollL K a all g tb D xs σ' H', bk := D.nx } σ2 H2) : unrollL K a all g tb D (x :: xs) σ H := h
theorem for_unT (h : SqT K H a all) (hu : unrollT K a all g tb D all σ H) :
    ∃ W : Nat → Nat → St → Hp → Prop, (∃ m, W 0 m σ H) ∧ ∀ i m σ H, W i m σ H →
      ((Itt K a).stop i H ∧ D.nx σ H) ∨ ((Itt K a).go i H ∧ ∃ N : St → Hp → Prop, (∀ σ' H', N σ' H' → ∃ m', m' < m ∧ W (i + 1) m' σ' H') ∧ ∀ x H', (Itt K a).yld i H x H' → g x σ H' fun σ2 H2 => tb { D with nx := N, ct := N, bk := D.nx } σ2 H2) := by
  refine ⟨fun i m σ H => m + i = all.length ∧ SqT K H a all ∧ unrollT K a all g tb D (all.drop i) σ H, ⟨all.length, rfl, h, hu⟩, ?_⟩
  rintro i m σ H ⟨hm, hs, hu⟩
  by_cases hi : i < all.length
  · rw [List.drop_eq_getElem_cons hi] at hu
    refine .inr ⟨⟨all, all[i], hs, by simp [hi]⟩, fun σ' H' => SqT K H' a all ∧ unrollT K a all g tb D (all.drop (i + 1)) σ' H', fun σ' H' q => ⟨m - 1, by omega, by omega, q.1, q.2⟩, fun x H' y => ?_⟩
    obtain ⟨e, y⟩ := y
    subst e
    have ex : all[i] = x := by
      have := y all hs
      rw [List.getElem?_eq_getElem hi] at this
      exact Option.some.inj this
    rw [← ex]
    exact hu
  · have e : all.drop i = [] := List.drop_eq_nil_of_le (by omega)
    rw [e] at hu
    exact .inl ⟨⟨all, hs, by omega⟩, hu⟩
theorem for_unL (h : SqL K H a all) (hu : unrollL K a all g tb D all σ H) :
    ∃ W : Nat → Nat → St → Hp → Prop, (∃ m, W 0 m σ H) ∧ ∀ i m σ H, W i m σ H →
      ((Itl K a).stop i H ∧ D.nx σ H) ∨ ((Itl K a).go i H ∧ ∃ N : St → Hp → Prop, (∀ σ' H', N σ' H' → ∃ m', m' < m ∧ W (i + 1) m' σ' H') ∧ ∀ x H', (Itl K a).yld i H x H' → g x σ H' fun σ2 H2 => tb { D with nx := N, ct := N, bk := D.nx } σ2 H2) := by
  refine ⟨fun i m σ H => m + i = all.length ∧ SqL K H a all ∧ unrollL K a all g tb D (all.drop i) σ H, ⟨all.length, rfl, h, hu⟩, ?_⟩
  rintro i m σ H ⟨hm, hs, hu⟩
  by_cases hi : i < all.length
  · rw [List.drop_eq_getElem_cons hi] at hu
    refine .inr ⟨⟨all, all[i], hs, by simp [hi]⟩, fun σ' H' => SqL K H' a all ∧ unrollL K a all g tb D (all.drop (i + 1)) σ' H', fun σ' H' q => ⟨m - 1, by omega, by omega, q.1, q.2⟩, fun x H' y => ?_⟩
    obtain ⟨e, y⟩ := y
    subst e
    have ex : all[i] = x := by
      have := y all hs
      rw [List.getElem?_eq_getElem hi] at this
      exact Option.some.inj this
    rw [← ex]
    exact hu
  · have e : all.drop i = [] := List.drop_eq_nil_of_le (by omega)
    rw [e] at hu
    exact .inl ⟨⟨all, hs, by omega⟩, hu⟩
theorem w_iTup {tl : TE} {R : It → Hp → Prop} (h : tl σ H fun x H1 => ∃ a, x = .ref a ∧ (∃ xs, SqT K H1 a xs) ∧ R (Itt K a) H1) : iTup K tl σ H R := h
theorem w_iList {tl : TE} {R : It → Hp → Prop} (h : tl σ H fun x H1 => ∃ a, x = .ref a ∧ (∃ xs, SqL K H1 a xs) ∧ R (Itl K a) H1) : iList K tl σ H R := h
end
theorem bits_le {i : Int} {n : Nat} (h : i.natAbs < 2 ^ n) (hn : 0 < n) : Builtin.Int.intBits i ≤ n := by
  unfold Builtin.Int.intBits
  have := PySem.Flt.log2_lt_of hn h
  split <;> omega
theorem divp_of {i j : Int} (hj : 0 < j) (h : i.natAbs < 2 ^ 4000) : CDivP i j := divp_ok hj (Nat.le_trans (bits_le h (by decide)) (Nat.le_add_left _ _))
theorem in_strs {x : Str} {l : List Str} (h : x ∈ l) : inV (.str x) (l.map V.str) = true := by
  unfold inV
  rw [List.any_eq_true]
  exact ⟨.str x, List.mem_map.mpr ⟨x, h, rfl⟩, by simp [eqV]⟩
theorem flat_strs (l : List Str) : (l.map V.str).all flatV = true := by
  rw [List.all_eq_true]
  intro v hv
  obtain ⟨x, _, rfl⟩ := List.mem_map.mp hv
  rfl
end DS
namespace DS
open PySem L2
theorem nrm_idem : ∀ (s : Nat) (u : Int), nrm (nrm u s).1 (nrm u s).2 = nrm u s
  | 0, u => rfl
  | s + 1, u => by
    by_cases h : u % 10 = 0
    · rw [nrm_pos h]
      exact nrm_idem s (u / 10)
    · rw [nrm_neg h]
      exact nrm_neg h
theorem nrm_minus : ∀ (s : Nat) (u : Int), nrm (-u) s = (-(nrm u s).1, (nrm u s).2)
  | 0, u => rfl
  | s + 1, u => by
    by_cases h : u % 10 = 0
    · have h2 : (-u) % 10 = 0 := by omega
      have h3 : (-u) / 10 = -(u / 10) := by omega
      rw [nrm_pos h, nrm_pos h2, h3]
      exact nrm_minus s (u / 10)
    · have h2 : ¬ (-u) % 10 = 0 := by omega
      rw [nrm_neg h, nrm_neg h2]
theorem nrm_le : ∀ (s : Nat) (u : Int), (nrm u s).2 ≤ s
  | 0, u => Nat.le_refl _
  | s + 1, u => by
    by_cases h : u % 10 = 0
    · rw [nrm_pos h]
      exact Nat.le_succ_of_le (nrm_le s (u / 10))
    · rw [nrm_neg h]
      exact Nat.le_refl _
theorem nrm_val : ∀ (s : Nat) (u : Int), u = (nrm u s).1 * 10 ^ (s - (nrm u s).2)
  | 0, u => by
    show u = u * 10 ^ (0 - 0)
    rw [Nat.sub_self, Int.pow_zero, Int.mul_one]
  | s + 1, u => by
    by_cases h : u % 10 = 0
    · rw [nrm_pos h]
      have l := nrm_le s (u / 10)
      have e := nrm_val s (u / 10)
      rw [Nat.succ_sub l, Int.pow_succ, ← Int.mul_assoc, ← e]
      omega
    · rw [nrm_neg h, Nat.sub_self, Int.pow_zero, Int.mul_one]
theorem nrm_last : ∀ (s : Nat) (u : Int), (nrm u s).2 = 0 ∨ ¬ (nrm u s).1 % 10 = 0
  | 0, u => .inl rfl
  | s + 1, u => by
    by_cases h : u % 10 = 0
    · rw [nrm_pos h]
      exact nrm_last s (u / 10)
    · rw [nrm_neg h]
      exact .inr h
theorem nrm_abs : ∀ (s : Nat) (u : Int), (nrm u s).1.natAbs ≤ u.natAbs
  | 0, u => Nat.le_refl _
  | s + 1, u => by
    by_cases h : u % 10 = 0
    · rw [nrm_pos h]
      have := nrm_abs s (u / 10)
      omega
    · rw [nrm_neg h]
      exact Nat.le_refl _
theorem nrm_mul : ∀ (k s : Nat) (u : Int), nrm (u * 10 ^ k) (s + k) = nrm u s
  | 0, s, u => by rw [Int.pow_zero, Int.mul_one]; rfl
  | k + 1, s, u => by
    have e : u * 10 ^ (k + 1) = u * 10 ^ k * 10 := by rw [Int.pow_succ, Int.mul_assoc]
    rw [e]
    have h : (u * 10 ^ k * 10) % 10 = 0 := by omega
    have h2 : (u * 10 ^ k * 10) / 10 = u * 10 ^ k := by omega
    show nrm (u * 10 ^ k * 10) ((s + k) + 1) = nrm u s
    rw [nrm_pos h, h2]
    exact nrm_mul k s u
theorem wf_nrm (u : Int) (s : Nat) : wf (nrm u s).1 (nrm u s).2 = wf u s := by unfold wf; rw [nrm_idem]
theorem wf_minus (u : Int) (s : Nat) : wf (-(nrm u s).1) (nrm u s).2 = wf (-u) s := by unfold wf; rw [nrm_minus, nrm_minus, nrm_idem]
theorem w_eqT2 {K : PySem.W.Frag} {H : Hp} {Q : VK} {p q : Addr} {a b c d : Int} (hp : H p = some (.tup [.int a, .int b])) (hq : H q = some (.tup [.int c, .int d])) (h : Q (.bl (a == c && (b == d && true))) H) : rEqD K (.ref p) (.ref q) H Q :=
  ⟨.tuple [.int a, .int b], .tuple [.int c, .int d], .tup (.inl (.inl hp)) (.cons (.int _) (.cons (.int _) .nil)), .tup (.inl (.inl hq)) (.cons (.int _) (.cons (.int _) .nil)), rfl, rfl, h⟩
def R_W (C : Addr) (a b : Addr) (H : Hp) : Prop := ∃ u s u' s', WAt C H a u s ∧ WAt C H b u' s' ∧ nrm u s = nrm u' s'
theorem R_W.mon {C : Addr} : ∀ a b H H', Ext H H' → R_W C a b H → R_W C a b H' := fun a b H H' e ⟨u, s, u', s', h1, h2, h3⟩ => ⟨u, s, u', s', h1.same e, h2.same e, h3⟩
end DS
namespace DS
open PySem L2
theorem wf_no (u : Int) (s : Nat) {m : Str} (h1 : ¬ m = "units") (h2 : ¬ m = "scale") : (wf u s).lookup m = none := by
  unfold wf
  rw [List.lookup_cons, beq_eq_false_iff_ne.mpr h1, List.lookup_cons, beq_eq_false_iff_ne.mpr h2]
  rfl
end DS
namespace DS
open PySem L2
theorem inV_strs (x : Str) : ∀ l : List Str, inV (.str x) (l.map V.str) = decide (x ∈ l)
  | [] => rfl
  | y :: r => by
    show (eqV (.str y) (.str x) || inV (.str x) (r.map V.str)) = decide (x ∈ y :: r)
    rw [inV_strs x r]
    show ((y == x) || decide (x ∈ r)) = decide (x ∈ y :: r)
    by_cases h : x = y
    · subst h
      simp
    · have h2 : ¬ y = x := fun e => h e.symm
      simp [h, h2]
theorem w_inL {K : PySem.W.Frag} {H : Hp} {Q : VK} {p : Addr} {x : Str} {l : List Str} (e : H p = some (.lst (l.map V.str))) (h : Q (.bl (decide (x ∈ l))) H) : rIn K false (.str x) (.ref p) H Q := by
  refine ⟨p, l.map V.str, rfl, .inl (.inl (.inl e)), rfl, flat_strs l, ?_⟩
  rw [if_neg Bool.false_ne_true, inV_strs]
  exact h
theorem ediv_abs (n d : Int) : (n / d).natAbs ≤ n.natAbs := Int.natAbs_ediv_le_natAbs n d
end DS
namespace DS
open PySem L2
theorem w_lc {wi : TI} {g : TG} {tt : TT} {te : TE} {vs : List Nat} {σ : St} {H : Hp} {Q : VK} (h : wi σ H fun J H1 => ∀ D, H1 D = none → ∃ W : Nat → Nat → Hp → Prop, (∃ m, W 0 m (upd H1 D (.lst []))) ∧ ∀ i m H, W i m H →
  (J.stop i H ∧ Q (.ref D) H) ∨ (J.go i H ∧ ∃ Nx : Hp → Prop, (∀ H', Nx H' → ∃ m', m' < m ∧ W (i + 1) m' H') ∧ ∀ x H', J.yld i H x H' → g x (wipe σ vs) H' fun σ2 H2 => wipe σ2 vs = wipe σ vs ∧ tt σ2 H2 fun b H3 =>
    if b = true then te σ2 H3 fun y H4 => ∃ acc, H4 D = some (.lst acc) ∧ acc.length < sizeLine ∧ Nx (upd H4 D (.lst (acc ++ [y]))) else Nx H3)) : tLc wi g tt te vs σ H Q := h
theorem w_yes {σ : St} {H : Hp} {R : Bool → Hp → Prop} (h : R true H) : tYes σ H R := h
end DS
namespace DS
open PySem L2 PyProof.Rows
/-- a def's promise somewhere below the running body -/
theorem run_sub {X : Cx} {CX : CXT} {n : Nat} {f : Addr} {fd : FuncData} {ps : List Str} {sp : Sp} {E : XK} {A : Around} {pins : List (Addr × Obj)} {σ : L2.St} {H : Hp} {s : Shared} {Q : VK} {us : List Value} {vs : List V}
    (sb : Sub X n A) (F : FnOk X.prog X.w X.K X.mg X.base CX n f fd ps sp) (hb : Binds X.K fd ps []) (hx : Passes CX X E) (I : L2.Inv X pins σ H s) (r : Vals vs us) (h : sp vs H Q E) :
    wpAny (model X.prog X.w) A (call (.ref f) us) (EP X pins σ Q) X.xe s := by
  have hl : us.length = ps.length := by rw [← r.length]; exact F.len _ _ _ _ h
  have e0 : Env0 X.prog X.w X.K X.mg X.base A X.stack s H := by
    have e := I.env0
    exact ⟨by rw [sb.fr]; exact e.frames, e.mod, e.bs, e.bsz, e.funs, e.frf, e.hok, e.bare⟩
  refine wpAny_call (codeAny_mono (F.run A X.stack s H ⟨us, []⟩ us vs Q E sb.room e0 (by
    have := hb s us I.kIn (by simpa using hl)
    simpa using this) r h) fun r s' hq => ?_)
  cases r with
  | error e => exact hx pins σ H s e s' I hq
  | ok fl =>
    cases fl with
    | ret u => exact I.after hq
    | next => exact False.elim hq
    | brk => exact False.elim hq
    | cont => exact False.elim hq
/-- x == y by the own __eq__, both of the class at C; whatever the answer -/
def rEqII (C : Addr) (sp : Sp) (E : XK) : R2 := fun x y H Q => ∃ a b dx dy fs gs, x = .ref a ∧ y = .ref b ∧ H a = some (.ins C dx fs) ∧ H b = some (.ins C dy gs) ∧ sp [.ref a, .ref b] H (fun v H' => ∃ k, v = .bl k ∧ Q (.bl k) H') E
def rNeII (C : Addr) (sp : Sp) (E : XK) : R2 := fun x y H Q => ∃ a b dx dy fs gs, x = .ref a ∧ y = .ref b ∧ H a = some (.ins C dx fs) ∧ H b = some (.ins C dy gs) ∧ sp [.ref a, .ref b] H (fun v H' => ∃ k, v = .bl k ∧ Q (.bl (!k)) H') E
theorem cmpback_bl {X : Cx} {pins : List (Addr × Obj)} {σ : L2.St} {Q : VK} {v : Value} {s' : Shared} (h : EP X pins σ (fun v H' => ∃ k, v = .bl k ∧ Q (.bl k) H') v s') : PySem.W.CmpBack (EP X pins σ Q) v s' := by
  obtain ⟨z, H', I, r, k, rfl, q⟩ := h
  obtain rfl : v = Value.bool k := r
  exact ⟨.bl k, H', I, rfl, q⟩
theorem op_eqII {X : Cx} {CX : CXT} {n : Nat} {C f : Addr} {fd : FuncData} {ps : List Str} {sp : Sp} {E : XK} (hm : Meth X.K C "__eq__" f) (F : FnOk X.prog X.w X.K X.mg X.base CX n f fd ps sp) (hr : Room n X.A) (hb : Binds X.K fd ps []) (hx : Passes CX X E) :
    OpR X (compareOp .Eq) (rEqII C sp E) := by
  intro pins s σ H x y v u Q I rx ry h
  obtain ⟨a, b, dx, dy, fs, gs, rfl, rfl, ha, hb', q⟩ := h
  obtain rfl : v = Value.ref a := rx
  obtain rfl : u = Value.ref b := ry
  obtain ⟨mA, J, _⟩ := ins_get I.hok ha
  obtain ⟨mB, J', _⟩ := ins_get I.hok hb'
  obtain ⟨od, J, _⟩ := J.look
  obtain ⟨od', J', _⟩ := J'.look
  obtain ⟨m, hF⟩ := I.fr
  show wpAny (model X.prog X.w) X.A (richCompare .Eq (.ref a) (.ref b)) (EP X pins σ Q) X.xe s
  refine PySem.W.cmp_K (op := .Eq) (tb := .ref C) hr.units0 hF I.ok.mod.kin J J'.type (by simp [PySem.W.notFirst]) hm.at_ hm.fn ?_
  exact wpAny_mono (run_sub (vs := [.ref a, .ref b]) ⟨hr, rfl⟩ F hb hx I (.cons rfl (.cons rfl .nil)) q) (fun v s' h => cmpback_bl h) fun _ _ z => z
theorem ne_own {X : Cx} {n : Nat} {C a b : Addr} {pins : List (Addr × Obj)} {σ : L2.St} {s : Shared} {Q : VK} {f : Addr} {oa ob : Obj} {oda odb : Option Obj} (hr : Room (n + 1) X.A) (X0 : X.K.In s.heap) (J : PySem.W.InstAt s.heap a oa C oda) (J' : PySem.W.InstAt s.heap b ob C odb)
    (hne : PySem.W.findIn X.K (.ref C) "__ne__" = some (some (.builtin "object.__ne__"))) (hmo : PySem.W.mroIn X.K C (.type "object") = some true) (hs : PySem.W.findIn X.K (.ref C) "__eq__" = some (some (.ref f))) (hf : PySem.W.isFn X.K (.ref f) = true)
    (h : wpAny (model X.prog X.w) X.A.in1 (call (.ref f) [.ref a, .ref b]) (EP X pins σ (fun v H' => ∃ k, v = .bl k ∧ Q (.bl (!k)) H')) X.xe s) :
    wpAny (model X.prog X.w) X.A (richCompare .NotEq (.ref a) (.ref b)) (EP X pins σ Q) X.xe s := by
  have call1 : wpAny (model X.prog X.w) X.A (call (.builtin "object.__ne__") [.ref a, .ref b]) (fun v s' => ∃ k : Bool, v = .bool k ∧ EP X pins σ Q v s') X.xe s := by
    refine wpAny_call (codeAny_call_builtin PySem.F.slot_object_ne.plain PySem.F.entry_object_ne (PySem.W.check_slot (i := "object.__ne__") (owner := "object") (n := "__ne__") (by decide +kernel) (by decide +kernel) (J.type.andThen (PySem.W.looks_mroIn X0 hmo)) (PySem.F.args_object_ne_2 _ _) ?_))
    unfold Builtin.«object.__ne__»
    refine wpAny_bind (m := slotArgs "__ne__" 1 _) (wpAny_pure ?_)
    refine wpAny_bind (m := cRoomFor _ _) (wpAny_cRoomFor hr.in1.units0 ?_)
    refine wpAny_bind (m := callSpecialIfBound? (.ref a) (Str.ofString "__eq__") _) (PySem.W.ifBound_K X0 J hs hf (wpAny_mono h (fun r s' hq => ?_) fun _ _ y => y))
    obtain ⟨z, H', I', rz, k, rfl, q⟩ := hq
    obtain rfl : r = Value.bool k := rz
    refine wpAny_bind (wpAny_truthy_bool ?_)
    exact wpAny_pure ⟨!k, rfl, .bl (!k), H', I', rfl, q⟩
  have one : wpAny (model X.prog X.w) X.A (tryCompare (.ref a) "__ne__" (.ref b)) (fun r s' => ∃ v, r = some v ∧ EP X pins σ Q v s') X.xe s := by
    unfold tryCompare
    simp only [callSpecialIfBound?, bindSpecialIfBound?]
    refine wpAny_bind (wpAny_holding (wpAny_bind (wpAny_bind (wpAny_bind (J.type.here ((PySem.W.looks_findIn X0 hne).here ?_))))))
    refine wpAny_bind (wpAny_askSetting (PySem.wpAny_ite ?_))
    have fin : wpAny (model X.prog X.w) X.A (call (.builtin "object.__ne__") ([.ref a] ++ [.ref b]) >>= fun v => pure (some v)) (fun r s' => wpAny (model X.prog X.w) X.A (match r with | some .notImplemented | none => pure none | some v => pure (some v)) (fun r s' => ∃ v, r = some v ∧ EP X pins σ Q v s') X.xe s') X.xe s :=
      wpAny_bind (wpAny_mono call1 (fun v s' h' => wpAny_pure (by
        obtain ⟨k, rfl, q⟩ := h'
        exact wpAny_pure ⟨_, rfl, q⟩)) fun _ _ h' => h')
    split
    · exact wpAny_bind ((PySem.W.Looks.of_pure (PySem.F.slot_object_ne.bind _)).here (wpAny_pure (by exact fin)))
    · exact wpAny_tryCatch (wpAny_bind ((PySem.W.Looks.of_pure (PySem.F.slot_object_ne.bind _)).here (wpAny_pure (by exact fin))))
  unfold richCompare
  simp only [PySem.oneThing_ref]
  refine wpAny_holding (wpAny_bind (wpAny_cRoomFor hr.units0 ?_))
  refine wpAny_bind (J.type.here (wpAny_bind (J'.type.here ?_)))
  rw [if_neg (by simp)]
  refine wpAny_bind (wpAny_pure ?_)
  simp only [Bool.false_eq_true, if_false]
  refine wpAny_bind (wpAny_mono one (fun r s' z => ?_) fun _ _ e => e)
  obtain ⟨v, rfl, hq⟩ := z
  exact wpAny_pure hq
end DS
namespace DS
open PySem L2 PyProof.Rows
theorem op_neII {X : Cx} {CX : CXT} {n : Nat} {C f : Addr} {fd : FuncData} {ps : List Str} {sp : Sp} {E : XK} (hm : Meth X.K C "__eq__" f) (hne : PySem.W.findIn X.K (.ref C) "__ne__" = some (some (.builtin "object.__ne__"))) (hmo : PySem.W.mroIn X.K C (.type "object") = some true)
    (F : FnOk X.prog X.w X.K X.mg X.base CX n f fd ps sp) (hr : Room (n + 1) X.A) (hb : Binds X.K fd ps []) (hx : Passes CX X E) : OpR X (compareOp .NotEq) (rNeII C sp E) := by
  intro pins s σ H x y v u Q I rx ry h
  obtain ⟨a, b, dx, dy, fs, gs, rfl, rfl, ha, hb', q⟩ := h
  obtain rfl : v = Value.ref a := rx
  obtain rfl : u = Value.ref b := ry
  obtain ⟨mA, J, _⟩ := ins_get I.hok ha
  obtain ⟨mB, J', _⟩ := ins_get I.hok hb'
  obtain ⟨od, J, _⟩ := J.look
  obtain ⟨od', J', _⟩ := J'.look
  exact ne_own hr I.kIn J J' hne hmo hm.at_ hm.fn (run_sub (vs := [.ref a, .ref b]) ⟨hr.in1, rfl⟩ F hb hx I (.cons rfl (.cons rfl .nil)) q)
theorem cmpback_of {X : Cx} {pins : List (Addr × Obj)} {σ : L2.St} {Q : VK} {v : Value} {s' : Shared} (h : EP X pins σ Q v s') : PySem.W.CmpBack (EP X pins σ Q) v s' := by
  obtain ⟨z, H', I, r, q⟩ := id h
  cases v with
  | notImplemented =>
    cases z <;> first | (obtain ⟨t, e⟩ := r; cases e) | cases r
  | _ => exact h
/-- x op y by the own method, both of the class at C -/
def rBinII (C : Addr) (sp : Sp) (E : XK) : R2 := fun x y H Q => ∃ a b dx dy fs gs, x = .ref a ∧ y = .ref b ∧ H a = some (.ins C dx fs) ∧ H b = some (.ins C dy gs) ∧ sp [.ref a, .ref b] H Q E
theorem op_binII {X : Cx} {CX : CXT} {n : Nat} {C f : Addr} {fd : FuncData} {ps : List Str} {sp : Sp} {E : XK} {op : Operator} {nm : Str} (hm : Meth X.K C nm f) (hnm : PySem.dunder op.info.2 = nm) (hc : PySem.W.selfFirst X.K C = true)
    (F : FnOk X.prog X.w X.K X.mg X.base CX n f fd ps sp) (hr : Room n X.A) (hb : Binds X.K fd ps []) (hx : Passes CX X E) : OpR X (binaryOp op) (rBinII C sp E) := by
  intro pins s σ H x y v u Q I rx ry h
  obtain ⟨a, b, dx, dy, fs, gs, rfl, rfl, ha, hb', q⟩ := h
  obtain rfl : v = Value.ref a := rx
  obtain rfl : u = Value.ref b := ry
  obtain ⟨mA, J, _⟩ := ins_get I.hok ha
  obtain ⟨mB, J', _⟩ := ins_get I.hok hb'
  obtain ⟨od, J, _⟩ := J.look
  obtain ⟨od', J', _⟩ := J'.look
  obtain ⟨m, hF⟩ := I.fr
  refine PySem.W.binop_K hF I.ok.mod.kin J J'.type hc (by rw [hnm]; exact hm.at_) hm.fn ?_
  exact wpAny_mono (run_sub (vs := [.ref a, .ref b]) ⟨hr, rfl⟩ F hb hx I (.cons rfl (.cons rfl .nil)) q) (fun v s' h => cmpback_of h) fun _ _ z => z
/-- x op n by the own method, n an int -/
structure IntR (K : PySem.W.Frag) (C : Addr) (op : Operator) : Prop where
  rc : ∃ rc, PySem.W.findIn K (.ref C) (PySem.dunderR op.info.2) = some rc ∧ (rc = none ∨ ∃ g : Addr, rc = some (.ref g))
  fo : ∃ fo, PySem.W.findIn K (.type "int") (PySem.dunder op.info.2) = some fo
  ro : ∃ ro, PySem.W.findIn K (.type "int") (PySem.dunderR op.info.2) = some ro
  sub : PySem.W.subIn K (.type "int") (.ref C) = some false
def rBinIZ (C : Addr) (sp : Sp) (E : XK) : R2 := fun x y H Q => ∃ a dx fs n, x = .ref a ∧ y = .int n ∧ H a = some (.ins C dx fs) ∧ sp [.ref a, .int n] H Q E
theorem op_binIZ {X : Cx} {CX : CXT} {n : Nat} {C f : Addr} {fd : FuncData} {ps : List Str} {sp : Sp} {E : XK} {op : Operator} {nm : Str} (hm : Meth X.K C nm f) (hnm : PySem.dunder op.info.2 = nm) (hc : PySem.W.selfFirst X.K C = true) (hi : IntR X.K C op)
    (F : FnOk X.prog X.w X.K X.mg X.base CX n f fd ps sp) (hr : Room n X.A) (hb : Binds X.K fd ps []) (hx : Passes CX X E) : OpR X (binaryOp op) (rBinIZ C sp E) := by
  intro pins s σ H x y v u Q I rx ry h
  obtain ⟨a, dx, fs, z, rfl, rfl, ha, q⟩ := h
  obtain rfl : v = Value.ref a := rx
  obtain ⟨t, rfl⟩ := (show ∃ t, u = Value.int z t from ry)
  obtain ⟨mA, J, _⟩ := ins_get I.hok ha
  obtain ⟨od, J, _⟩ := J.look
  obtain ⟨m, hF⟩ := I.fr
  obtain ⟨rc, hrc, hp⟩ := hi.rc
  obtain ⟨fo, hfo⟩ := hi.fo
  obtain ⟨ro, hro⟩ := hi.ro
  refine PySem.W.ksp_binT (T := "int") hF I.ok.mod.kin J rfl hc (by rw [hnm]; exact hm.at_) hm.fn hrc hp hfo hro hi.sub ?_
  exact wpAny_mono (run_sub (vs := [.ref a, .int z]) ⟨hr, rfl⟩ F hb hx I (.cons rfl (.cons ⟨t, rfl⟩ .nil)) q) (fun v s' h => cmpback_of h) fun _ _ z => z
end DS
namespace DS
open PySem L2 PyProof.Rows
/-- X(), X an own exception class without own __init__ -/
theorem pmk_own0 {X : Cx} {C : Addr} {bmB : List Value} {B newId initId : String} {x : Str} {p pos : Pos} (F : ExcBaseFacts B newId initId bmB) (q : PySem.W.excIn X.K C bmB newId = true) (gC : X.mg x = some (.ref C)) (kC : PySem.W.keepIn X.K (.ref C) = true) (r : Raises X (.ref C)) (hg : Gl X x)
    (hdb : (x == ("__debug__" : Str)) = false := by decide) : PMk X (.Call (.Name x p) [] [] pos) (fun _ H Q => Q (.ref C) none H) := by
  intro pins s σ H Q I h
  refine wpAny_Call_Name_kw (ld_glob I hg gC ?_ hdb)
  refine PySem.W.callWith_K0 I.kIn kC ?_
  show wpAny _ _ (call (.ref C) []) _ _ _
  obtain ⟨bm, N, nm, qn, bs, hdct, sn, sub, ab, col, dd, k0, k1, k2, k3, k5, mN, hC, hN, hni, T⟩ := exc_obj I.kIn q
  exact wpAny_call_exc_subT F T hC hN hni (fun h' e hm => mk_of I hm r h (I.hok.gone hm.new)) (Nat.zero_le _)
end DS
namespace DS
open PySem L2
theorem w_dget2 {td ty tx : TE} {σ : St} {H : Hp} {Q : VK} (h : td σ H fun x H1 => ∃ a, x = .ref a ∧ IsD H1 a ∧ ty σ H1 fun y H2 => tx σ H2 fun z H3 => ∃ o, DGet H3 a y o ∧ Q (o.getD z) H3) : tDGet2 td ty tx σ H Q := h
end DS
namespace DS
open PySem L2 PySem.Spec PyProof.Rows
/-! ### int('1' + '0' * n) -/
def rMulS : R2 := fun x y H Q => ∃ a n, x = .str a ∧ y = .int n ∧ MulOk a n ∧ Q (.str (Txt.mul a n)) H
theorem op_mulS {X : Cx} : OpR X (binaryOp .Mult) rMulS := by
  intro pins s σ H x y v u Q I rx ry h
  obtain ⟨a, n, rfl, rfl, ok, q⟩ := h
  obtain ⟨t, rfl⟩ := (show ∃ t, v = Value.str a t from rx)
  obtain ⟨t', rfl⟩ := (show ∃ t, u = Value.int n t from ry)
  exact SB.mul ok fun t2 k => ⟨.str (Txt.mul a n), H, I.tok k, ⟨_, rfl⟩, q⟩
theorem foldl_arr (x : Array Nat) : ∀ (n : Nat) (acc : Array Nat), ((List.replicate n x).foldl (· ++ ·) acc).toList = acc.toList ++ (List.replicate n x.toList).flatten
  | 0, acc => by simp
  | n + 1, acc => by
    rw [List.replicate_succ, List.foldl_cons, foldl_arr x n, Array.toList_append, List.replicate_succ, List.flatten_cons, List.append_assoc]
theorem zero_cps : ("0" : Str).cps.toList = [48] := by decide +kernel
theorem one_cps : ("1" : Str).cps.toList = [49] := by decide +kernel
theorem flat48 : ∀ n : Nat, (List.replicate n [48]).flatten = List.replicate n 48
  | 0 => rfl
  | n + 1 => by rw [List.replicate_succ, List.flatten_cons, flat48 n]; rfl
theorem mul_cps (n : Nat) : (Txt.mul "0" (n : Int)).cps.toList = List.replicate n 48 := by
  unfold Txt.mul
  have l0 : (("0" : Str).length == 0) = false := by decide +kernel
  by_cases h : (n : Int) < 1
  · rw [if_pos h]
    have : n = 0 := by omega
    subst this
    rfl
  · rw [if_neg h]
    by_cases h1 : ((n : Int) == 1) = true
    · rw [h1, Bool.true_or, if_pos rfl]
      have : n = 1 := by
        have := beq_iff_eq.mp h1
        omega
      subst this
      exact zero_cps
    · rw [Bool.not_eq_true] at h1
      rw [h1, l0, Bool.false_or, if_neg (by simp)]
      show ((List.replicate ((n : Int)).toNat ("0" : Str).cps).foldl (· ++ ·) #[]).toList = _
      rw [foldl_arr, Int.toNat_natCast, zero_cps, flat48]
      rfl
theorem ten_cps (n : Nat) : (("1" : Str) ++ Txt.mul "0" (n : Int)).cps.toList = 49 :: List.replicate n 48 := by
  show (("1" : Str).cps ++ (Txt.mul "0" (n : Int)).cps).toList = _
  rw [Array.toList_append, one_cps, mul_cps]
  rfl
theorem fold48 : ∀ (n m : Nat), (List.replicate n 48).foldl (fun acc c => acc * 10 + (c - 48)) m = m * 10 ^ n
  | 0, m => by simp
  | n + 1, m => by
    rw [List.replicate_succ, List.foldl_cons, fold48 n, Nat.sub_self, Nat.add_zero, Nat.pow_succ, Nat.mul_assoc, Nat.mul_comm 10]
theorem ten_text {n : Nat} (h : n ≤ 600) : PySem.intText? (("1" : Str) ++ Txt.mul "0" (n : Int)) = some ((10 : Int) ^ n) ∧ (("1" : Str) ++ Txt.mul "0" (n : Int)).length ≤ 640 ∧ ("1" : Str).length + (Txt.mul "0" (n : Int)).length ≤ sizeLine := by
  have hc := ten_cps n
  have l1 : (("1" : Str) ++ Txt.mul "0" (n : Int)).length = n + 1 := by
    show (("1" : Str) ++ Txt.mul "0" (n : Int)).cps.size = _
    rw [← Array.length_toList, hc]
    simp
  have l2 : (Txt.mul "0" (n : Int)).length = n := by
    show (Txt.mul "0" (n : Int)).cps.size = _
    rw [← Array.length_toList, mul_cps]
    simp
  refine ⟨?_, by omega, ?_⟩
  · have dg : NumText.AllDigits (("1" : Str) ++ Txt.mul "0" (n : Int)).cps.toList := by
      rw [hc]
      intro c m
      rcases List.mem_cons.mp m with z | z
      · omega
      · have := List.eq_of_mem_replicate z
        omega
    rw [intText_digits dg (by rw [hc]; simp) (by omega), hc]
    unfold NumText.digitsVal
    rw [List.foldl_cons, fold48]
    simp
  · have e : ("1" : Str).length = 1 := by decide +kernel
    rw [l2, e]
    have : (641 : Nat) ≤ sizeLine := by decide
    omega
theorem mulok_ten {n : Nat} (h : n ≤ 600) : MulOk "0" (n : Int) := by
  refine ⟨by simp; omega, fun _ _ => ?_, fun _ _ => ?_⟩
  · have e : (("0" : Str).length : Int) = 1 := by decide +kernel
    rw [e]
    by_cases z : (n : Int) = 0
    · omega
    · have : (1 : Int) ≤ (2 ^ 63 - 1) / (n : Int) := Int.le_ediv_of_mul_le (by omega) (by omega)
      omega
  · have e : ("0" : Str).length = 1 := by decide +kernel
    rw [e]
    have : (641 : Nat) ≤ sizeLine := by decide
    exact decide_eq_false (by simp; omega)
end DS
namespace DS
open PySem L2
/-! ### sizes, hidden from omega -/
def B (k : Nat) (a : Int) : Prop := a.natAbs < 2 ^ k
theorem B.mono {k l : Nat} {a : Int} (h : B k a) (e : k ≤ l) : B l a := pow_wide h e
theorem B.add {k l : Nat} {a b : Int} (h : B k a) (g : B l b) : B (max k l + 1) (a + b) := by
  have h1 := h.mono (Nat.le_max_left k l)
  have g1 := g.mono (Nat.le_max_right k l)
  unfold B at *
  rw [Nat.pow_succ]
  generalize 2 ^ max k l = z at *
  omega
theorem B.neg {k : Nat} {a : Int} (h : B k a) : B k (-a) := by
  unfold B at *
  rw [Int.natAbs_neg]
  exact h
theorem B.sub {k l : Nat} {a b : Int} (h : B k a) (g : B l b) : B (max k l + 1) (a - b) := by
  rw [Int.sub_eq_add_neg]
  exact h.add g.neg
theorem B.mul {k l : Nat} {a b : Int} (h : B k a) (g : B l b) : B (k + l) (a * b) := by
  unfold B at *
  rw [Int.natAbs_mul, Nat.pow_add]
  exact Nat.mul_lt_mul'' h g
theorem B.div {k : Nat} {a b : Int} (h : B k a) : B k (a / b) := Nat.lt_of_le_of_lt (ediv_abs a b) h
theorem B.mod {k : Nat} {a b : Int} (h : B k b) (h0 : 0 < b) : B k (a % b) := by
  have h1 := Int.emod_nonneg a (show b ≠ 0 by omega)
  have h2 := Int.emod_lt_of_pos a h0
  unfold B at *
  generalize 2 ^ k = z at *
  omega
theorem B.le {k : Nat} {a b : Int} (h : B k b) (h0 : 0 ≤ a) (h1 : a ≤ b) : B k a := by
  unfold B at *
  generalize 2 ^ k = z at *
  omega
theorem B.lit {a : Int} {k : Nat} (h : a.natAbs < 2 ^ k := by decide) : B k a := h
theorem B.cmul {k l : Nat} {a b : Int} (h : B k a) (g : B l b) (e : k + l ≤ 999998 := by decide) : CMulA a b := CMulA.w h g e
theorem B.log {k : Nat} {a : Int} (h : B k a) (h0 : 0 < a) (e : k ≤ 9000 := by decide) : a.natAbs.log2 < 9000 := by
  unfold B at h
  have k0 : 0 < k := by
    rcases Nat.eq_zero_or_pos k with z | z
    · subst z
      simp at h
      omega
    · exact z
  exact Nat.lt_of_lt_of_le (PySem.Flt.log2_lt_of k0 h) e
theorem B.ten (n : Nat) : B (4 * n + 1) (10 ^ n) := ten_lt n
theorem B.small {k : Nat} {a : Int} (h0 : -1073741824 < a) (h1 : a < 1073741824) (e : 30 ≤ k := by decide) : B k a := by
  refine B.mono (k := 30) ?_ e
  unfold B
  omega
end DS
namespace DS
open PySem L2
/-! ### __init__ of an own class -/
def IniOk (C p dx : Addr) (fs : List (Str × V)) (H : Hp) (Q : VK) : Prop := H p = some (.ins C dx []) ∧ ∀ H', H' p = some (.ins C dx fs) → (∀ b o, b ≠ p → H b = some o → H' b = some o) → Q .non H'
def InsAt (C : Addr) (H : Hp) (p : Addr) (fs : List (Str × V)) : Prop := ∃ dx, H p = some (.ins C dx fs)
theorem InsAt.same {C : Addr} {H H' : Hp} {p : Addr} {fs : List (Str × V)} (e : Same H H') (h : InsAt C H p fs) : InsAt C H' p fs := by
  obtain ⟨dx, h⟩ := h
  exact ⟨dx, e _ _ h⟩
theorem InsAt.keep {C : Addr} {H H' : Hp} {p : Addr} {fs : List (Str × V)} (e : Keep H H') (h : InsAt C H p fs) : InsAt C H' p fs := by
  obtain ⟨dx, h⟩ := h
  exact ⟨dx, e _ _ h rfl⟩
theorem make_ini {C x dx : Addr} {H : Hp} {Q Q' : VK} {fs : List (Str × V)} (e : Q' = Q) (nx : H x = none) (nd : H dx = none) (ne : dx ≠ x) (h : ∀ H', Same H H' → InsAt C H' x fs → Q (.ref x) H') :
    IniOk C x dx fs (upd (upd H dx (.own x)) x (.ins C dx [])) (fun v H2 => v = .non ∧ Q' (.ref x) H2) := by
  subst e
  refine ⟨upd_same, fun H' e k => ⟨rfl, h H' (fun b o z => ?_) ⟨dx, e⟩⟩⟩
  have n1 : b ≠ x := ne_of_none z nx
  refine k b o n1 ?_
  rw [upd_ne n1, upd_ne (ne_of_none z nd)]
  exact z
theorem ini_end {C p dx : Addr} {fs : List (Str × V)} {H H' : Hp} {Q : VK} (i : IniOk C p dx fs H Q) (e : H' p = some (.ins C dx fs)) (k : ∀ b o, b ≠ p → H b = some o → H' b = some o) : Q .non H' := i.2 H' e k
theorem putF_len (f : Str) (v : V) : ∀ fs : List (Str × V), (putF f v fs).length ≤ fs.length + 1
  | [] => Nat.le_refl _
  | (g, u) :: r => by
    show (if g = f then (g, v) :: r else (g, u) :: putF f v r).length ≤ _
    split
    · exact Nat.le_succ _
    · exact Nat.succ_le_succ (putF_len f v r)
end DS
/-! own exceptions whose __init__ calls super().__init__ -/
namespace DS
open PySem L2 PySem.Spec PyProof.Rows
section
variable {X : Cx} {pins : List (Addr × Obj)} {σ : L2.St} {H : Hp} {s : Shared} {A : Around} {E : Value → Shared → Prop} {a C u : Addr}
/-- the bound __init__ of ValueError, called: nothing of it is told -/
theorem mw_init {us : List Value} {Q : Value → Shared → Prop} (T : OexC X.K C) (I : Inv X pins σ H s) (e : H a = some (exo a C none)) (hu : s.heap.get? u = some (PySem.W.kxs_mw "ValueError.__init__" a)) (hl : us.length ≤ sizeLine) (h : ∀ s', Inv X pins σ H s' → Q .none s') :
    wpAny (model X.prog X.w) A (call (.ref u) us) Q E s := by
  obtain ⟨nm, q, N, bs, bm, sn, sub, ab, col, dd, k0, k1, k2, k3, k5, hC, hbm⟩ := T.cls
  obtain ⟨t1, ho⟩ := exo_at I.hok e
  have hC' := I.kIn _ _ hC
  obtain ⟨hp, g, d, t, os⟩ := s
  have fin : ∀ h' t2, (∀ b o, b ≠ a → hp.get? b = some o → h'.get? b = some o) → h'.get? a = some (PySem.HandSPX.excO C t2) → Q .none ⟨h', g, d, t, os⟩ := fun h' t2 k hx => by
    have J := I.write (t' := t) (x := a) (e := a) (o := exo a C none) (by rw [e]; exact True.intro) (.inl rfl) k ⟨_, hx⟩ (exo_ok hx)
    have eu : upd H a (exo a C none) = H := by
      funext b
      by_cases hb : b = a
      · rw [hb, upd_same, e]
      · rw [upd_ne hb]
    rw [eu] at J
    exact h _ J
  refine wpAny_call (codeAny_of_tree ?_)
  show wpAny _ A.in1 (callAny (.ref u) ⟨us, []⟩) _ _ _
  simp only [callAny]
  refine wpAny_bind (wpAny_load hu ?_)
  simp only [PySem.W.kxs_mw, show (Value.type "method-wrapper" == Value.type "method" || Value.type "method-wrapper" == Value.type "builtin_function_or_method" || Value.type "method-wrapper" == Value.type "method-wrapper") = true by decide, if_true]
  refine PySem.W.KFB.if_so (by decide) ?_
  refine wpAny_bind (PySem.W.check_bound_init PySem.F.excBase_ValueError.toExcCallFacts hC' ho rfl ?_)
  refine wpAny_bind (wpAny_pure (wpAny_pure ?_))
  refine ⟨Code.quiet_builtin _ (by decide +kernel), codeAny_builtin PySem.F.excBase_ValueError.initEntry ?_⟩
  rw [Around.under_plainId PySem.F.excBase_ValueError.init.plain _]
  wp_walk
  refine fin _ hp.objs.size (fun b o hb ho => ?_) ?_
  · rw [Heap.get?_update_other _ _ (Ne.symm hb)]
    exact Heap.get?_push_of_some _ ho
  · rw [Heap.get?_update_self _ (Heap.get?_push_of_some _ ho) rfl]
    rfl
end
section
open NdefX
variable {P : Program} {w : World} {K : PySem.W.Frag} {mg : Str → Option Value} {base : Heap} {N ps : List Str} {f C cc cda : Addr} {qual : Str} {params : Arguments} {scope : Scope} {kV doc pm ct oc ccl cl : Value} {an od cdd cld : Option Addr} {osl ccs csl : Array (Option Value)} {vsC : Array Value} {file : Str} {tf : Tok}
  {cdC : ClassData} {ar : Arg} {e : Expr} {es : List Expr} {rest : List Stmt} {p0 p1 ap cp ep : Pos} {k : Nat} {sp : Sp}
/-- the body of an own exception's __init__ -/
abbrev xBody (e : Expr) (es : List Expr) (rest : List Stmt) (p0 p1 ap cp ep : Pos) : List Stmt := .Expr (.Call (.Attribute (.Call (.Name "super" p0) [] [] p1) "__init__" ap) (e :: es) [] cp) ep :: rest
theorem sinit_ok (lk : K.lookup f = some ⟨oc, od, .func (PySem.W.ksFn "__init__" qual params (xBody e es rest p0 p1 ap cp ep) scope .none kV doc pm an (.ref cda) ct cc), osl⟩) (hcd : PySem.W.codeIn K (.ref cda) qual = true)
    (hcode : K.lookup cda = some ⟨ccl, cdd, .fields vsC, ccs⟩) (hvs : vsC[2]? = some (.str file tf)) (hfile : ((P.main.file : Str) == file) = true) (hcell : K.lookup cc = some ⟨cl, cld, .cell (some (.ref C)), csl⟩) (hC : PySem.W.clsIn K C = some cdC)
    (hsub : PySem.W.mroIn K C (.ref C) = some true) (hsup : mg "super" = none) (htop : (P.main.scope.names.lookup ("super" : Str)).isSome = false) (ho : PySem.W.nsIn K cStatics "thirdparty.any" = some none)
    (hm : PySem.W.ks_superIn K C C "__init__" = some (some (.builtin "ValueError.__init__"))) (hB : PySem.W.subIn K (.ref C) (.type "ValueError") = some true) (T : OexC K C) (S : NScope N ps ["__class__"] scope)
    (har : (params.posonlyargs ++ params.args).head? = some ar) (hps : ps[0]? = some ar.arg) (hks : scope.names.lookup ("super" : Str) = some .globalImplicit) (len : ∀ vs H Q E, sp vs H Q E → vs.length = ps.length)
    {pl : Sem Bool} (hi : ∀ L, interactive (PySem.W.ksEnv qual scope L f (.ref cda) cc) = false) (hsw : ∀ L, swapsWith (.Call (.Attribute (.Call (.Name "super" p0) [] [] p1) "__init__" ap) (e :: es) [] cp) none ep.line (PySem.W.ksEnv qual scope L f (.ref cda) cc) = pure false)
    (hev : ∀ L, eval (.Call (.Attribute (.Call (.Name "super" p0) [] [] p1) "__init__" ap) (e :: es) [] cp) (PySem.W.ksEnv qual scope L f (.ref cda) cc) = (do
      let ov ← attributeBase (.Call (.Name "super" p0) [] [] p1) "__init__" (PySem.W.ksEnv qual scope L f (.ref cda) cc) (eval (.Call (.Name "super" p0) [] [] p1) (PySem.W.ksEnv qual scope L f (.ref cda) cc))
      standAt ap.atName
      let (g, first) ← holding [ov] (getMethod ov "__init__" pl)
      callWith cp g first (backTo cp (starEach (e :: es) (PySem.W.ksEnv qual scope L f (.ref cda) cc))) []))
    (hstar : ∀ env : Env, starEach (e :: es) env = (false, eval e env) :: starEach es env) (hpl : ∀ env : Env, (backTo cp (starEach es env)).any (·.1) = false)
    (hbody : ∀ (A : Around) (outer : List Env) (s : Shared) (H : Hp) (vs : List V) (Q : VK) (E : XK), sp vs H Q E → ∃ (a : Addr) (ta : TA) (t : TS), vs[0]? = some (.ref a) ∧ H a = some (exo a C none) ∧
      PA (ncx CX0 P w K mg base N ⟨"__init__", qual, params, xBody e es rest p0 p1 ap cp ep, scope, [("__class__", cc)], cda⟩ f A outer s H E) (e :: es) ta ∧ PSs (ncx CX0 P w K mg base N ⟨"__init__", qual, params, xBody e es rest p0 p1 ap cp ep, scope, [("__class__", cc)], cda⟩ f A outer s H E) rest t ∧
      ta (startF N vs [some (.ref C)]) H fun ws H1 => ws.length ≤ 1000 ∧ H1 a = some (exo a C none) ∧ t { nx := fun _ H' => Q .non H', rt := Q } (startF N vs [some (.ref C)]) H1) :
    FnOk P w K mg base CX0 (k + 1) f (PySem.W.ksFn "__init__" qual params (xBody e es rest p0 p1 ap cp ep) scope .none kV doc pm an (.ref cda) ct cc) ps sp := by
  refine ⟨len, fun A outer s H args us vs Q E hr e0 hb r hsp => ?_⟩
  have hl := len _ _ _ _ hsp
  have KX : K.In s.heap := e0.mod.kin.keeps fun b o e => (e0.bs b o e).1
  have lim : s.heap.NoLimit := e0.mod.nolimit.keeps fun b o e => (e0.bs b o e).1
  obtain ⟨a, ta, t, hv0, hex, hpa, hpss, hq⟩ := hbody A outer s H vs Q E hsp
  have hcellH : s.heap.IsCell cc (some (.ref C)) := ⟨_, KX _ _ hcell, rfl⟩
  have one : ∀ {y c}, ([("__class__", cc)] : List (Str × Addr)).lookup y = some c → y = "__class__" ∧ c = cc := fun {y c} h => by
    rw [List.lookup_cons] at h
    by_cases hy : y = "__class__"
    · subst hy
      simp at h
      exact ⟨rfl, h.symm⟩
    · rw [beq_eq_false_iff_ne.mpr hy] at h
      simp at h
  have CA : CellsAt [("__class__", cc)] ["__class__"] [some (.ref C)] s.heap H := by
    refine ⟨rfl, fun y c h => ?_, fun x y c h1 h2 => ?_, fun i y h => ?_⟩
    · obtain ⟨_, rfl⟩ := one h
      exact ⟨(e0.bs _ _ (e0.mod.kin _ _ hcell)).2, _, hcellH⟩
    · rw [(one h1).1, (one h2).1]
    · match i, h with
      | 0, h =>
        cases h
        exact ⟨cc, by simp, fun v hv => by cases hv; exact ⟨.ref C, rfl, hcellH⟩⟩
      | n + 1, h => simp at h
  have hu0 : us[0]? = some (.ref a) := by
    obtain ⟨u, hu, rv⟩ := r.get hv0
    obtain rfl : u = Value.ref a := rv
    exact hu
  have ndP : ps.Nodup := by
    have q := S.nd.sublist (List.take_sublist (ps.length + 1) N)
    rw [show N.take (ps.length + 1) = ps ++ ([("__class__" : Str)] : List Str) from S.pre] at q
    exact (List.nodup_append.mp q).1
  refine PySem.ks_codeAny_call_defAt (binds := ps.zip us) hr.depth (KX _ _ lk) rfl lim (PySem.W.codeRec_of KX hcd) rfl hb S.nocell (fun ⟨n, v⟩ hy => S.par n (List.of_mem_zip hy).1) (fun h₁ hns kp => ?_) S.co S.gen S.kind
  have I : Inv (ncx CX0 P w K mg base N ⟨"__init__", qual, params, xBody e es rest p0 p1 ap cp ep, scope, [("__class__", cc)], cda⟩ f A outer s H E) [] (startF N vs [some (.ref C)]) H { s with heap := h₁, toks := s.toks + (ps.zip us).length } := inv_startN S hr.hd e0 hl r CA hns kp
  have hkc : scope.names.lookup ("__class__" : Str) = some .free := S.frk _ (by simp)
  have hka : scope.names.lookup ar.arg = some .local := S.par _ (List.mem_of_getElem? hps)
  have hself : (ps.zip us).reverse.lookup ar.arg = some (.ref a) := zip_look ndP hps hu0
  have KX1 : K.In h₁ := KX.keeps kp
  obtain ⟨oD, hD1, hD2⟩ : ∃ oD, h₁.get? C = some oD ∧ oD.data = .cls cdC := by
    unfold PySem.W.clsIn at hC
    split at hC
    · rename_i c d cd' sl ho
      cases hC
      exact ⟨_, KX1 _ _ ho, rfl⟩
    · cases hC
  obtain ⟨t1, hx⟩ := exo_at I.hok hex
  have hxC : a ≠ C := fun z => by
    rw [z, hD1] at hx
    cases hx
    cases hD2
  obtain ⟨mb, hb1, hb2⟩ := I.mod.blt
  refine PySem.ks_wpAt_execs_cons (PySem.ks_wpAt_Expr_any (PySem.ks_wpAt_MethodCall (pl := pl) (PySem.ks_wpAt_super_base hks hkc (by decide) rfl (KX1 _ _ lk) rfl har rfl (KX1 _ _ hcode) rfl hvs hfile htop ?_) (hev _)) (hi _) (hsw _))
  refine PySem.W.ks_loadName_global S.kind hks (Calls.loadGlobal_builtin (e0.mod.glob.keeps I.bk) hsup (hb1.keeps I.bk) ((hb2 _ (by decide)).trans (show bootBuiltins "super" = some (.type "super") by kernel_rfl)) ⟨rfl, ?_⟩)
  refine wpAny_loadName_free S.kind hkc rfl ⟨_, KX1 _ _ hcell, rfl⟩ ?_
  refine wpAny_loadName_local S.kind hka hns hself ?_
  refine PySem.ks_wpAny_isType_cls hD1 hD2 ⟨rfl, ?_⟩
  refine PySem.ks_wpAny_call_super hD1 hD2 hx rfl (fun c e => nomatch e) (PySem.W.looks_mroIn KX1 hsub) (fun h₂ eso k2 => ?_)
  have KX2 : K.In h₂ := KX1.keeps k2
  have hx2 := k2 _ _ hx
  have IA : PySem.W.InstAt h₂ a _ C none := ⟨hx2, rfl, rfl, trivial⟩
  refine PySem.W.kxs_getMethod PySem.W.kxs_ValueError eso (PySem.W.looks_opaque KX2 ho) (l₀ := cdC.mro) (fun A Q E s k q => wpAny_bind ((PySem.W.looks_clsIn KX2 hC) A _ E s k (wpAny_pure q))) rfl KX2 (by unfold PySem.W.ks_superIn at hm; rw [hC] at hm; exact hm) (IA.type.andThen (PySem.W.looks_subIn KX2 hB)) hxC (by decide) ?_
  have k3 : ∀ b o, h₁.get? b = some o → (h₂.push (PySem.W.kxs_mw "ValueError.__init__" a)).get? b = some o := fun b o e => Heap.get?_push_of_some _ (k2 b o e)
  have sz : h₁.objs.size ≤ h₂.objs.size := Nat.le_of_lt (Heap.lt_size eso)
  have I3 := I.kept (t' := s.toks + (ps.zip us).length + 1) k3
  have hmw : (h₂.push (PySem.W.kxs_mw "ValueError.__init__" a)).get? h₂.objs.size = some (PySem.W.kxs_mw "ValueError.__init__" a) := Heap.get?_push_at rfl rfl
  have pin : ∀ p ∈ ([] : List (Addr × Obj)) ++ [(h₂.objs.size, PySem.W.kxs_mw "ValueError.__init__" a)], (h₂.push (PySem.W.kxs_mw "ValueError.__init__" a)).get? p.1 = some p.2 ∧ H p.1 = none ∧ p.1 ≠ s.heap.objs.size ∧ p.1 ∉ frs outer ∧ ∀ v, p.2.data ≠ .cell v := fun p hp => by
    simp only [List.nil_append, List.mem_singleton] at hp
    subst hp
    have hlt : s.heap.objs.size < h₁.objs.size := hns.lt
    exact ⟨hmw, I.hok.fresh sz, Nat.ne_of_gt (Nat.lt_of_lt_of_le hlt sz), fun z => absurd (I.nofs (a := h₂.objs.size) sz z) (by simp), fun v z => by cases z⟩
  have I3p : Inv (ncx CX0 P w K mg base N ⟨"__init__", qual, params, xBody e es rest p0 p1 ap cp ep, scope, [("__class__", cc)], cda⟩ f A outer s H E) [(h₂.objs.size, PySem.W.kxs_mw "ValueError.__init__" a)] (startF N vs [some (.ref C)]) H { s with heap := h₂.push (PySem.W.kxs_mw "ValueError.__init__" a), toks := s.toks + (ps.zip us).length + 1 } :=
    ⟨I3.ok, I3.os, I3.bare, I3.base, I3.loc, I3.cell, I3.free, I3.freeC, pin, I3.hok, I3.len⟩
  have run := hpa.run cp _ _ _ H _ I3p hq
  show wpAny _ _ (callWith cp (.ref h₂.objs.size) [] (backTo cp (starEach (e :: es) (PySem.W.ksEnv qual scope s.heap.objs.size f (.ref cda) cc))) []) _ _ _
  have run' : wpAny (model P w) (A.deeper (PySem.W.ksEnv qual scope s.heap.objs.size f (.ref cda) cc)) (spliced (backTo cp (starEach (e :: es) (PySem.W.ksEnv qual scope s.heap.objs.size f (.ref cda) cc)))) _ _ _ := run
  rw [hstar] at run' ⊢
  refine PySem.W.kxs_callWith (i := "ValueError.__init__") (x := a) (by show (false || (backTo cp (starEach es _)).any (·.1)) = false; rw [hpl]; rfl) (Calls.evalArgs_plain (thn run' fun us2 s3 h3 => ?_))
  obtain ⟨ws, H1, I4, r4, hz, he1, hq2⟩ := h3
  have hmw4 := (I4.pin _ (List.mem_append_right _ (List.mem_singleton.mpr rfl))).1
  refine ⟨hmw4, ?_⟩
  have hlen : us2.length ≤ sizeLine := by
    rw [← Paired.length r4, sizeLine_eq]
    omega
  refine mw_init T I4 he1 hmw4 hlen (fun s' J => ?_)
  have J0 : Inv (ncx CX0 P w K mg base N ⟨"__init__", qual, params, xBody e es rest p0 p1 ap cp ep, scope, [("__class__", cc)], cda⟩ f A outer s H E) [] (startF N vs [some (.ref C)]) H1 s' :=
    ⟨J.ok, J.os, J.bare, J.base, J.loc, J.cell, J.free, J.freeC, fun p hp => absurd (show p ∈ ([] : List (Addr × Obj)) ++ [] from hp) (by simp), J.hok, J.len⟩
  refine wpAt_of_wpAny (wpAny_mono (hpss.run [] s' _ H1 _ J0 hq2) (fun fl s'' hs => ?_) fun e s'' hs => hs)
  have fin : ∀ {σ' : L2.St} {H' : Hp} {v : V} {u : Value}, Inv (ncx CX0 P w K mg base N ⟨"__init__", qual, params, xBody e es rest p0 p1 ap cp ep, scope, [("__class__", cc)], cda⟩ f A outer s H E) [] σ' H' s'' → L2.RelV v u → Q v H' → CE outer P w H s Q u s'' :=
    fun {σ' H' v u} J rv q => ⟨v, H', J.os, J.bare, J.base, J.hok, rv, q⟩
  cases fl with
  | ret u =>
    obtain ⟨v, σ', H', J, rv, q⟩ := hs
    exact fin J rv q
  | next =>
    obtain ⟨σ', H', J, q⟩ := hs
    exact fin (v := V.non) (u := Value.none) J rfl q
  | brk =>
    obtain ⟨_, _, _, q⟩ := hs
    exact False.elim q
  | cont =>
    obtain ⟨_, _, _, q⟩ := hs
    exact False.elim q
end
end DS
namespace DS
open PySem L2 PySem.Spec PyProof.Rows LamX NdefX
/-! ### an own exception with one field -/
/-- __init__(self, f): super().__init__(f); self.f = f -/
def spX1 (C : Addr) (f : Str) : Sp := fun vs H Q _ => ∃ (a : Addr) (v : V), vs = [.ref a, v] ∧ H a = some (exo a C none) ∧ ∀ dx, H dx = none → dx ≠ a → Q .non (upd (upd H dx (exd dx [(f, v)])) a (exo a C (some dx)))
/-- what the head has left of such a class -/
structure XOne (P : Program) (w : World) (K : PySem.W.Frag) (mg : Str → Option Value) (C f : Addr) (fd : FuncData) (st : Stmt) (qual fld : Str) : Prop where
  fn : ∃ oc od osl kV doc pm an cda ct cc ccl cdd ccs vsC file tf cl cld csl cdC, fd = PySem.W.ksFn "__init__" qual (defArgs st) (defBody st) (defScope st) .none kV doc pm an (.ref cda) ct cc ∧
    K.lookup f = some ⟨oc, od, .func (PySem.W.ksFn "__init__" qual (defArgs st) (defBody st) (defScope st) .none kV doc pm an (.ref cda) ct cc), osl⟩ ∧ PySem.W.codeIn K (.ref cda) qual = true ∧
    K.lookup cda = some ⟨ccl, cdd, .fields vsC, ccs⟩ ∧ vsC[2]? = some (.str file tf) ∧ ((P.main.file : Str) == file) = true ∧ K.lookup cc = some ⟨cl, cld, .cell (some (.ref C)), csl⟩ ∧ PySem.W.clsIn K C = some cdC
  sub : PySem.W.mroIn K C (.ref C) = some true
  sup : mg "super" = none
  top : (P.main.scope.names.lookup ("super" : Str)).isSome = false
  any : PySem.W.nsIn K cStatics "thirdparty.any" = some none
  ini : PySem.W.ks_superIn K C C "__init__" = some (some (.builtin "ValueError.__init__"))
  ve : PySem.W.subIn K (.ref C) (.type "ValueError") = some true
  oex : OexC K C
  nof : PySem.W.findIn K (.ref C) fld = some none
  iC : PySem.W.findIn K (.ref C) "__init__" = some (some (.ref f))
  tI : PySem.W.typeIn K (.ref f) = some (.type "function")
/-- E takes a BadValue of v, raised at H -/
def Bad (C : Addr) (f : Str) (v : V) (E : XK) (H : Hp) : Prop := ∀ d H', Same H H' → H' d = some (.xd [(f, v)]) → E (.ref C) (some d) H'
theorem Bad.same {C : Addr} {f : Str} {v : V} {E : XK} {H H1 : Hp} (b : Bad C f v E H) (e : Same H H1) : Bad C f v E H1 := fun d H' s q => b d H' (e.trans s) q
/-- what is read by name -/
theorem w_mkX1 {C : Addr} {f : Str} {te : TE} {σ : L2.St} {H : Hp} {Q : XK} {v : V} (h : ∀ R : VK, R v H → te σ H R) (b : Bad C f v Q H) : tMkO C (spX1 C f) [] (tCons te tNil) σ H Q := by
  refine h _ ?_
  refine ⟨Nat.le_of_ble_eq_true rfl, fun a na => ⟨a, v, rfl, upd_same, fun dx nd ne => ⟨rfl, dx, [(f, v)], upd_same, ?_, ?_, ?_⟩⟩⟩
  · rw [upd_ne ne, upd_same]
  · rw [upd_ne ne] at nd
    exact nd
  · have nd' : H dx = none := by
      rw [upd_ne ne] at nd
      exact nd
    refine b dx _ (fun b o e => ?_) upd_same
    have n1 : b ≠ dx := ne_of_none e nd'
    have n2 : b ≠ a := ne_of_none e na
    rw [upd_ne n1, del_ne n2, upd_ne n2, upd_ne n1, upd_ne n2]
    exact e
theorem w_raise {t : L2.St → Hp → XK → Prop} {W : WX} {D : Ends} {σ : L2.St} {H : Hp} (h : t σ H fun cls d H' => W cls d σ H') : (fun (_ : Ends) (σ : L2.St) (H : Hp) => t σ H fun cls d H' => W cls d σ H') D σ H := h
end DS
/-! values as trees: the heap is split into a frozen part F, which only grows, and owned objects -/
namespace VL
open PySem L2 DS
inductive Tr where
  | non | bl (b : Bool) | int (i : Int) | str (x : Str)
  | tup (xs : List Tr) | lst (xs : List Tr) | dct (kvs : List (Key × Tr))
  | ins (C : Addr) (fs : List (Str × Tr))
  | opq (v : V) | pen | scr (ns : List Int)
inductive FO where
  | ob (o : HO) | pen
abbrev FH := Addr → Option FO
def hp (F : FH) : Hp := fun a => match F a with
  | some (.ob o) => some o
  | _ => none
theorem hp_eq {F : FH} {a : Addr} {o : HO} : hp F a = some o ↔ F a = some (.ob o) := by
  unfold hp
  split
  · rename_i o' e
    rw [e]
    constructor
    · intro z; cases z; rfl
    · intro z; cases z; rfl
  · rename_i n
    constructor
    · intro z; cases z
    · intro z; exact absurd z (n o)
def le (F F' : FH) : Prop := ∀ a o, F a = some o → F' a = some o
theorem le.refl (F : FH) : le F F := fun _ _ h => h
theorem le.trans {F F1 F2 : FH} (a : le F F1) (b : le F1 F2) : le F F2 := fun c o h => b c o (a c o h)
theorem le.hp {F F' : FH} (l : le F F') : Same (VL.hp F) (VL.hp F') := fun a o e => hp_eq.mpr (l a _ (hp_eq.mp e))
structure Gb where
  K : PySem.W.Frag
  TT : List (Addr × Str)
  pk : Str × Str × Str
  pz : Bool
/-- what is asked of an own class -/
structure OwnC (K : PySem.W.Frag) (C : Addr) : Prop where
  cl : Cls K C
  ha : PySem.W.findIn K (.ref C) "__class__" = some (some (.builtin "object.__class__"))
  hn : PySem.W.specialIn K (.builtin "object.__class__") "__get__" = some (some (.builtin "getset_descriptor.__get__"))
  htk : PySem.W.takesIn K (.builtin "object.__class__") = some true
  hm : PySem.W.mroIn K C (.type "object") = some true
  ki : PySem.W.kitOne K (.ref C) (.type "int") = some false
  kb : PySem.W.kitOne K (.ref C) (.type "bool") = some false
  ks : PySem.W.kitOne K (.ref C) (.type "str") = some false
  kl : PySem.W.kitOne K (.ref C) (.type "list") = some false
  kt : PySem.W.kitOne K (.ref C) (.type "tuple") = some false
  kd : PySem.W.kitOne K (.ref C) (.type "dict") = some false
mutual
inductive Rep (g : Gb) (F : FH) : V → Tr → Prop
  | non : Rep g F .non .non
  | bl (b : Bool) : Rep g F (.bl b) (.bl b)
  | int (i : Int) : Rep g F (.int i) (.int i)
  | str (x : Str) : Rep g F (.str x) (.str x)
  | tup {a : Addr} {vs : List V} {ts : List Tr} (h : SqT g.K (hp F) a vs) (r : Reps g F vs ts) : Rep g F (.ref a) (.tup ts)
  | lst {a : Addr} {vs : List V} {ts : List Tr} (h : F a = some (.ob (.lst vs))) (r : Reps g F vs ts) : Rep g F (.ref a) (.lst ts)
  | dct {a : Addr} {kvs : List (Key × V)} {kts : List (Key × Tr)} (h : F a = some (.ob (.dK kvs))) (r : RepK g F kvs kts) : Rep g F (.ref a) (.dct kts)
  | ins {a C dx : Addr} {fs : List (Str × V)} {fts : List (Str × Tr)} (h : F a = some (.ob (.ins C dx fs))) (c : OwnC g.K C) (r : RepF g F fs fts) : Rep g F (.ref a) (.ins C fts)
  | opq (v : V) : Rep g F v (.opq v)
  | pen {a : Addr} (h : F a = some .pen) : Rep g F (.ref a) .pen
  | scr {a : Addr} {ns : List Int} (h : SqL g.K (hp F) a (ns.map V.int)) : Rep g F (.ref a) (.scr ns)
inductive Reps (g : Gb) (F : FH) : List V → List Tr → Prop
  | nil : Reps g F [] []
  | cons {v : V} {t : Tr} {vs : List V} {ts : List Tr} (r : Rep g F v t) (rs : Reps g F vs ts) : Reps g F (v :: vs) (t :: ts)
inductive RepF (g : Gb) (F : FH) : List (Str × V) → List (Str × Tr) → Prop
  | nil : RepF g F [] []
  | cons {x : Str} {v : V} {t : Tr} {vs : List (Str × V)} {ts : List (Str × Tr)} (r : Rep g F v t) (rs : RepF g F vs ts) : RepF g F ((x, v) :: vs) ((x, t) :: ts)
inductive RepK (g : Gb) (F : FH) : List (Key × V) → List (Key × Tr) → Prop
  | nil : RepK g F [] []
  | cons {x : Key} {v : V} {t : Tr} {vs : List (Key × V)} {ts : List (Key × Tr)} (r : Rep g F v t) (rs : RepK g F vs ts) : RepK g F ((x, v) :: vs) ((x, t) :: ts)
end
theorem sqT_same {K : PySem.W.Frag} {H H' : Hp} {a : Addr} {vs : List V} (e : Same H H') (q : SqT K H a vs) : SqT K H' a vs := by
  rcases q with (q | ⟨o, q⟩) | q
  · exact .inl (.inl (e _ _ q))
  · exact .inl (.inr ⟨o, e _ _ q⟩)
  · exact .inr q
theorem sqL_same {K : PySem.W.Frag} {H H' : Hp} {a : Addr} {vs : List V} (e : Same H H') (q : SqL K H a vs) : SqL K H' a vs := by
  rcases q with (q | ⟨o, q⟩) | q
  · exact .inl (.inl (e _ _ q))
  · exact .inl (.inr ⟨o, e _ _ q⟩)
  · exact .inr q
mutual
theorem Rep.mono {g : Gb} {F F' : FH} (l : le F F') : ∀ {v : V} {t : Tr}, Rep g F v t → Rep g F' v t
  | _, _, .non => .non
  | _, _, .bl b => .bl b
  | _, _, .int i => .int i
  | _, _, .str x => .str x
  | _, _, .tup h r => .tup (sqT_same l.hp h) (Reps.mono l r)
  | _, _, .lst h r => .lst (l _ _ h) (Reps.mono l r)
  | _, _, .dct h r => .dct (l _ _ h) (RepK.mono l r)
  | _, _, .ins h c r => .ins (l _ _ h) c (RepF.mono l r)
  | _, _, .opq v => .opq v
  | _, _, .pen h => .pen (l _ _ h)
  | _, _, .scr h => .scr (sqL_same l.hp h)
theorem Reps.mono {g : Gb} {F F' : FH} (l : le F F') : ∀ {vs : List V} {ts : List Tr}, Reps g F vs ts → Reps g F' vs ts
  | _, _, .nil => .nil
  | _, _, .cons r rs => .cons (Rep.mono l r) (Reps.mono l rs)
theorem RepF.mono {g : Gb} {F F' : FH} (l : le F F') : ∀ {vs : List (Str × V)} {ts : List (Str × Tr)}, RepF g F vs ts → RepF g F' vs ts
  | _, _, .nil => .nil
  | _, _, .cons r rs => .cons (Rep.mono l r) (RepF.mono l rs)
theorem RepK.mono {g : Gb} {F F' : FH} (l : le F F') : ∀ {vs : List (Key × V)} {ts : List (Key × Tr)}, RepK g F vs ts → RepK g F' vs ts
  | _, _, .nil => .nil
  | _, _, .cons r rs => .cons (Rep.mono l r) (RepK.mono l rs)
end
theorem Reps.length {g : Gb} {F : FH} : ∀ {vs : List V} {ts : List Tr}, Reps g F vs ts → vs.length = ts.length
  | _, _, .nil => rfl
  | _, _, .cons _ rs => congrArg (· + 1) (Reps.length rs)
theorem Reps.append {g : Gb} {F : FH} : ∀ {vs us : List V} {ts ss : List Tr}, Reps g F vs ts → Reps g F us ss → Reps g F (vs ++ us) (ts ++ ss)
  | _, _, _, _, .nil, b => b
  | _, _, _, _, .cons r rs, b => .cons r (Reps.append rs b)
theorem Reps.get {g : Gb} {F : FH} : ∀ {vs : List V} {ts : List Tr} (i : Nat) {t : Tr}, Reps g F vs ts → ts[i]? = some t → ∃ v, vs[i]? = some v ∧ Rep g F v t
  | _, _, 0, _, .cons r _, e => by cases e; exact ⟨_, rfl, r⟩
  | _, _, i + 1, t, .cons _ rs, e => by
    obtain ⟨v, h1, h2⟩ := Reps.get i rs (by simpa using e)
    exact ⟨v, by simpa using h1, h2⟩
theorem Reps.get' {g : Gb} {F : FH} : ∀ {vs : List V} {ts : List Tr} (i : Nat) {v : V}, Reps g F vs ts → vs[i]? = some v → ∃ t, ts[i]? = some t ∧ Rep g F v t
  | _, _, 0, _, .cons r _, e => by cases e; exact ⟨_, rfl, r⟩
  | _, _, i + 1, v, .cons _ rs, e => by
    obtain ⟨t, h1, h2⟩ := Reps.get' i rs (by simpa using e)
    exact ⟨t, by simpa using h1, h2⟩
theorem Reps.drop {g : Gb} {F : FH} : ∀ {vs : List V} {ts : List Tr} (i : Nat), Reps g F vs ts → Reps g F (vs.drop i) (ts.drop i)
  | _, _, 0, r => r
  | _, _, _ + 1, .nil => .nil
  | _, _, i + 1, .cons _ rs => Reps.drop i rs
theorem Reps.take {g : Gb} {F : FH} : ∀ {vs : List V} {ts : List Tr} (i : Nat), Reps g F vs ts → Reps g F (vs.take i) (ts.take i)
  | _, _, 0, _ => .nil
  | _, _, _ + 1, .nil => .nil
  | _, _, i + 1, .cons r rs => .cons r (Reps.take i rs)
theorem Reps.set {g : Gb} {F : FH} {v : V} {t : Tr} (q : Rep g F v t) : ∀ {vs : List V} {ts : List Tr} (i : Nat), Reps g F vs ts → Reps g F (vs.set i v) (ts.set i t)
  | _, _, _, .nil => .nil
  | _, _, 0, .cons _ rs => .cons q rs
  | _, _, i + 1, .cons r rs => .cons r (Reps.set q i rs)
theorem Reps.reverse {g : Gb} {F : FH} : ∀ {vs : List V} {ts : List Tr}, Reps g F vs ts → Reps g F vs.reverse ts.reverse
  | _, _, .nil => .nil
  | _, _, .cons r rs => by
    rw [List.reverse_cons, List.reverse_cons]
    exact (Reps.reverse rs).append (.cons r .nil)
theorem Reps.erase {g : Gb} {F : FH} : ∀ {vs : List V} {ts : List Tr} (i : Nat), Reps g F vs ts → Reps g F (vs.eraseIdx i) (ts.eraseIdx i)
  | _, _, _, .nil => .nil
  | _, _, 0, .cons _ rs => rs
  | _, _, i + 1, .cons r rs => .cons r (Reps.erase i rs)
theorem Reps.ints {g : Gb} {F : FH} : ∀ {vs : List V} {ns : List Int}, Reps g F vs (ns.map Tr.int) → vs = ns.map V.int
  | [], [], _ => rfl
  | _, n :: ns, h => by
    cases h with
    | cons r rs => cases r with | int => rw [Reps.ints rs]; rfl
theorem Reps.of_ints {g : Gb} {F : FH} : ∀ (ns : List Int), Reps g F (ns.map V.int) (ns.map Tr.int)
  | [] => .nil
  | n :: ns => .cons (.int n) (Reps.of_ints ns)
theorem Reps.strs {g : Gb} {F : FH} : ∀ {vs : List V} {ns : List Str}, Reps g F vs (ns.map Tr.str) → vs = ns.map V.str
  | [], [], _ => rfl
  | _, n :: ns, h => by
    cases h with
    | cons r rs => cases r with | str => rw [Reps.strs rs]; rfl
theorem Reps.bools {g : Gb} {F : FH} : ∀ {vs : List V} {ns : List Bool}, Reps g F vs (ns.map Tr.bl) → vs = ns.map V.bl
  | [], [], _ => rfl
  | _, n :: ns, h => by
    cases h with
    | cons r rs => cases r with | bl => rw [Reps.bools rs]; rfl
theorem RepF.lookup {g : Gb} {F : FH} {f : Str} : ∀ {vs : List (Str × V)} {ts : List (Str × Tr)} {t : Tr}, RepF g F vs ts → ts.lookup f = some t → ∃ v, vs.lookup f = some v ∧ Rep g F v t
  | _, _, _, .nil, e => by cases e
  | _, _, t, .cons (x := x) r rs, e => by
    rw [List.lookup_cons] at e ⊢
    cases hx : (f == x) with
    | true => rw [hx] at e; cases e; exact ⟨_, rfl, r⟩
    | false => rw [hx] at e; exact RepF.lookup rs e
theorem RepF.lookup_none {g : Gb} {F : FH} {f : Str} : ∀ {vs : List (Str × V)} {ts : List (Str × Tr)}, RepF g F vs ts → ts.lookup f = none → vs.lookup f = none
  | _, _, .nil, _ => rfl
  | _, _, .cons (x := x) r rs, e => by
    rw [List.lookup_cons] at e ⊢
    cases hx : (f == x) with
    | true => rw [hx] at e; cases e
    | false => rw [hx] at e; exact RepF.lookup_none rs e
theorem RepF.length {g : Gb} {F : FH} : ∀ {vs : List (Str × V)} {ts : List (Str × Tr)}, RepF g F vs ts → vs.length = ts.length
  | _, _, .nil => rfl
  | _, _, .cons _ rs => congrArg (· + 1) (RepF.length rs)
/-- putF at trees -/
def putT (f : Str) (t : Tr) : List (Str × Tr) → List (Str × Tr)
  | [] => [(f, t)]
  | (x, u) :: r => if x = f then (x, t) :: r else (x, u) :: putT f t r
theorem RepF.put {g : Gb} {F : FH} {f : Str} {v : V} {t : Tr} (q : Rep g F v t) : ∀ {vs : List (Str × V)} {ts : List (Str × Tr)}, RepF g F vs ts → RepF g F (putF f v vs) (putT f t ts)
  | _, _, .nil => .cons q .nil
  | _, _, .cons (x := x) (v := u) (t := s) (vs := vs) (ts := ts) r rs => by
    show RepF g F (if x = f then (x, v) :: vs else (x, u) :: putF f v vs) (if x = f then (x, t) :: ts else (x, s) :: putT f t ts)
    by_cases h : x = f
    · subst h
      rw [if_pos rfl, if_pos rfl]
      exact .cons q rs
    · rw [if_neg h, if_neg h]
      exact .cons r (RepF.put q rs)
/-! ### pens -/
def pend (pk : Str × Str × Str) (c : Addr) (a l : Int) : List (Key × V) := [(Sum.inr pk.1, .ref c), (Sum.inr pk.2.1, .int a), (Sum.inr pk.2.2, .int l)]
structure PenAt (g : Gb) (F : FH) (H : Hp) (d : Addr) (n : Nat) : Prop where
  ex : ∃ (c : Addr) (ns : List Int) (a l : Int), H d = some (.dK (pend g.pk c a l)) ∧ F c = some (.ob (.lst (ns.map V.int))) ∧ 0 ≤ a ∧ a ≤ n ∧ 0 ≤ l ∧ ns.length ≤ 63 ∧ (g.pz = true → 0 < ns.length)
/-- without the tables of code objects -/
def nt (H : Hp) : Hp := fun a => match H a with
  | some (.tbl _) => none
  | o => o
theorem nt_none {H : Hp} {a : Addr} (e : H a = none) : nt H a = none := by unfold nt; rw [e]
theorem nt_some {H : Hp} {a : Addr} {o : HO} (e : H a = some o) (n : ∀ ps, o ≠ .tbl ps) : nt H a = some o := by
  unfold nt
  rw [e]
  cases o with
  | tbl ps => exact absurd rfl (n ps)
  | _ => rfl
theorem nt_get {H : Hp} {a : Addr} {o : HO} (e : nt H a = some o) : H a = some o ∧ ∀ ps, o ≠ .tbl ps := by
  unfold nt at e
  cases h : H a with
  | none => rw [h] at e; cases e
  | some u =>
    rw [h] at e
    cases u with
    | tbl ps => cases e
    | _ => cases e; exact ⟨rfl, fun _ z => nomatch z⟩
theorem nt_upd {H : Hp} {p a : Addr} {o : HO} (q : a ≠ p) : nt (upd H p o) a = nt H a := by
  unfold nt
  rw [upd_ne q]
structure Sub (g : Gb) (n : Nat) (F : FH) (H : Hp) : Prop where
  ob : Same (hp F) H
  pen : ∀ a, F a = some .pen → PenAt g F H a n
  tab : LamX.Tabs g.TT H
  nt : ∀ a ps, F a ≠ some (.ob (.tbl ps))
theorem Sub.at_ {g : Gb} {n : Nat} {F : FH} {H : Hp} {a : Addr} {o : HO} (s : Sub g n F H) (e : F a = some (.ob o)) : H a = some o := s.ob _ _ (hp_eq.mpr e)
theorem Sub.free {g : Gb} {n : Nat} {F : FH} {H : Hp} {a : Addr} (s : Sub g n F H) (e : H a = none) : F a = none := by
  cases h : F a with
  | none => rfl
  | some o =>
    cases o with
    | ob o => rw [s.at_ h] at e; cases e
    | pen =>
      obtain ⟨c, ns, k, l, h1, _⟩ := (s.pen a h).ex
      rw [h1] at e
      cases e
theorem Sub.more {g : Gb} {n m : Nat} {F : FH} {H : Hp} (s : Sub g n F H) (h : n ≤ m) : Sub g m F H := ⟨s.ob, fun a e => by
  obtain ⟨c, ns, k, l, h1, h2, h3, h4, h5⟩ := (s.pen a e).ex
  exact ⟨c, ns, k, l, h1, h2, h3, by omega, h5⟩, s.tab, s.nt⟩
/-- what a piece of code may do -/
structure Fr (F : FH) (H : Hp) (F' : FH) (H' : Hp) : Prop where
  le : VL.le F F'
  fresh : ∀ a, F' a ≠ none → F a ≠ none ∨ nt H a = none
  keep : ∀ a o, H a = some o → F a ≠ some .pen → (∀ ps, o ≠ .tbl ps) → H' a = some o
  there : ∀ a, nt H a ≠ none → nt H' a ≠ none
theorem Fr.refl (F : FH) (H : Hp) : Fr F H F H := ⟨le.refl _, fun _ h => .inl h, fun _ _ h _ _ => h, fun _ h => h⟩
theorem Fr.trans {F F1 F2 : FH} {H H1 H2 : Hp} (a : Fr F H F1 H1) (b : Fr F1 H1 F2 H2) : Fr F H F2 H2 := by
  refine ⟨a.le.trans b.le, fun x h => ?_, fun x o h np no => ?_, fun x h => b.there x (a.there x h)⟩
  · rcases b.fresh x h with q | q
    · exact a.fresh x q
    · right
      cases e : VL.nt H x with
      | none => rfl
      | some o => exact absurd q (a.there x (by rw [e]; intro z; cases z))
  · refine b.keep x o (a.keep x o h np no) (fun z => ?_) no
    rcases a.fresh x (by rw [z]; intro w; cases w) with q | q
    · cases e : F x with
      | none => exact q e
      | some u =>
        have := a.le x u e
        rw [z] at this
        cases this
        exact np e
    · rw [nt_some h no] at q
      cases q
def updF (F : FH) (a : Addr) (o : FO) : FH := fun b => if b = a then some o else F b
theorem updF_same {F : FH} {a : Addr} {o : FO} : updF F a o a = some o := by unfold updF; rw [if_pos rfl]
theorem updF_ne {F : FH} {a b : Addr} {o : FO} (h : b ≠ a) : updF F a o b = F b := by unfold updF; rw [if_neg h]
theorem le_updF {F : FH} {a : Addr} {o : FO} (h : F a = none) : le F (updF F a o) := fun b u e => by
  have n : b ≠ a := fun z => by rw [z, h] at e; cases e
  rw [updF_ne n]
  exact e
/-- a new object is frozen -/
theorem alloc {g : Gb} {n : Nat} {F : FH} {H : Hp} {p : Addr} {o : HO} (s : Sub g n F H) (e : H p = none) (no : ∀ ps, o ≠ .tbl ps := by intro _ z; cases z) : Fr F H (updF F p (.ob o)) (upd H p o) ∧ Sub g n (updF F p (.ob o)) (upd H p o) := by
  have f := s.free e
  refine ⟨⟨le_updF f, fun a h => ?_, fun a u h _ _ => ?_, fun a h => ?_⟩, ⟨fun a u h => ?_, fun a h => ?_, s.tab.ext (same_upd e), fun a ps h => ?_⟩⟩
  · by_cases q : a = p
    · right; rw [q]; exact nt_none e
    · left; rw [updF_ne q] at h; exact h
  · exact same_upd e a u h
  · by_cases q : a = p
    · rw [q, nt_none e] at h; exact absurd rfl h
    · rw [nt_upd q]; exact h
  · have h' := hp_eq.mp h
    by_cases q : a = p
    · subst q
      rw [updF_same] at h'
      cases h'
      exact upd_same
    · rw [updF_ne q] at h'
      rw [upd_ne q]
      exact s.at_ h'
  · have q : a ≠ p := fun z => by subst z; rw [updF_same] at h; cases h
    rw [updF_ne q] at h
    obtain ⟨c, ns, k, l, h1, h2, h3⟩ := (s.pen a h).ex
    refine ⟨c, ns, k, l, ?_, ?_, h3⟩
    · rw [upd_ne q]; exact h1
    · exact le_updF f c _ h2
  · by_cases q : a = p
    · subst q
      rw [updF_same] at h
      cases h
      exact no _ rfl
    · rw [updF_ne q] at h
      exact s.nt a ps h
/-- a new object, not frozen -/
theorem alloc0 {g : Gb} {n : Nat} {F : FH} {H : Hp} {p : Addr} {o : HO} (s : Sub g n F H) (e : H p = none) : Fr F H F (upd H p o) ∧ Sub g n F (upd H p o) := by
  refine ⟨⟨le.refl _, fun a h => .inl h, fun a u h _ _ => same_upd e a u h, fun a h => ?_⟩, ⟨fun a u h => ?_, fun a h => ?_, s.tab.ext (same_upd e), s.nt⟩⟩
  · by_cases q : a = p
    · rw [q, nt_none e] at h; exact absurd rfl h
    · rw [nt_upd q]; exact h
  · exact same_upd e _ _ (s.ob _ _ h)
  · obtain ⟨c, ns, k, l, h1, h2, h3⟩ := (s.pen a h).ex
    exact ⟨c, ns, k, l, same_upd e _ _ h1, h2, h3⟩
theorem sqL_sub {g : Gb} {n : Nat} {F : FH} {H : Hp} {a : Addr} {vs : List V} (s : Sub g n F H) (q : SqL g.K (hp F) a vs) : SqL g.K H a vs := sqL_same s.ob q
theorem sqT_sub {g : Gb} {n : Nat} {F : FH} {H : Hp} {a : Addr} {vs : List V} (s : Sub g n F H) (q : SqT g.K (hp F) a vs) : SqT g.K H a vs := sqT_same s.ob q
/-! ### slots -/
inductive Sl where
  | un | v (t : Tr) | ol (xs : List Tr) | oi (C a dx : Addr) (fs : List (Str × Tr)) | od (kvs : List (Key × Tr))
def isOwn : Sl → Bool
  | .un => false
  | .v _ => false
  | _ => true
def RelSl (g : Gb) (H0 : Hp) (F : FH) (H : Hp) : Sl → Option V → Prop
  | .un, _ => True
  | .v t, o => ∃ v, o = some v ∧ Rep g F v t
  | .ol xs, o => ∃ a vs, o = some (.ref a) ∧ H a = some (.lst vs) ∧ F a = none ∧ nt H0 a = none ∧ Reps g F vs xs
  | .oi C a dx fs, o => ∃ fvs, o = some (.ref a) ∧ H a = some (.ins C dx fvs) ∧ F a = none ∧ nt H0 a = none ∧ OwnC g.K C ∧ RepF g F fvs fs
  | .od kvs, o => ∃ a vs, o = some (.ref a) ∧ H a = some (.dK vs) ∧ F a = none ∧ nt H0 a = none ∧ RepK g F vs kvs
abbrev VQ := Tr → Nat → Prop
abbrev XQ := Addr → List (Str × Tr) → Nat → Prop
structure Cn where
  g : Gb
  F0 : FH
  H0 : Hp
  E : XK
  x : XQ
/-- the fields of an exception -/
def XAt (H : Hp) : Option Addr → List (Str × V) → Prop
  | some d, fvs => H d = some (.xd fvs)
  | none, fvs => fvs = []
structure Cn.Ok (Γ : Cn) : Prop where
  out : ∀ C d fvs fts n F H, Fr Γ.F0 Γ.H0 F H → Sub Γ.g n F H → XAt H d fvs → RepF Γ.g F fvs fts → Γ.x C fts n → Γ.E (.ref C) d H
structure Rel (Γ : Cn) (n : Nat) (ρ : List Sl) (F : FH) (σ : L2.St) (H : Hp) : Prop where
  ok : Γ.Ok
  fr : Fr Γ.F0 Γ.H0 F H
  sub : Sub Γ.g n F H
  len : ρ.length = σ.length
  sl : ∀ (i : Nat) s, ρ[i]? = some s → ∃ o, σ[i]? = some o ∧ RelSl Γ.g Γ.H0 F H s o
  dis : ∀ (i j : Nat) (a : Addr) s u, i ≠ j → ρ[i]? = some s → ρ[j]? = some u → isOwn s = true → isOwn u = true → σ[i]? = some (some (.ref a)) → σ[j]? = some (some (.ref a)) → False
theorem RelSl.go {g : Gb} {H0 : Hp} {F F' : FH} {H H' : Hp} (f : Fr F H F' H') : ∀ {s : Sl} {o : Option V}, RelSl g H0 F H s o → RelSl g H0 F' H' s o := by
  have own : ∀ {a : Addr} {u : HO}, H a = some u → F a = none → (∀ ps, u ≠ .tbl ps) → H' a = some u ∧ F' a = none := fun {a u} h1 h2 h3 => by
    refine ⟨f.keep a u h1 (by rw [h2]; intro z; cases z) h3, ?_⟩
    cases e : F' a with
    | none => rfl
    | some w =>
      rcases f.fresh a (by rw [e]; intro z; cases z) with q | q
      · exact absurd h2 q
      · rw [nt_some h1 h3] at q; cases q
  intro s o h
  cases s with
  | un => trivial
  | v t => obtain ⟨v, e, r⟩ := h; exact ⟨v, e, r.mono f.le⟩
  | ol xs =>
    obtain ⟨a, vs, e, h1, h2, h3, r⟩ := h
    obtain ⟨q1, q2⟩ := own h1 h2 (fun ps z => nomatch z)
    exact ⟨a, vs, e, q1, q2, h3, r.mono f.le⟩
  | oi C a dx fs =>
    obtain ⟨fvs, e, h1, h2, h3, c, r⟩ := h
    obtain ⟨q1, q2⟩ := own h1 h2 (fun ps z => nomatch z)
    exact ⟨fvs, e, q1, q2, h3, c, r.mono f.le⟩
  | od kvs =>
    obtain ⟨a, vs, e, h1, h2, h3, r⟩ := h
    obtain ⟨q1, q2⟩ := own h1 h2 (fun ps z => nomatch z)
    exact ⟨a, vs, e, q1, q2, h3, r.mono f.le⟩
theorem Rel.go {Γ : Cn} {n n' : Nat} {ρ : List Sl} {F F' : FH} {σ : L2.St} {H H' : Hp} (r : Rel Γ n ρ F σ H) (f : Fr F H F' H') (s : Sub Γ.g n' F' H') : Rel Γ n' ρ F' σ H' :=
  ⟨r.ok, r.fr.trans f, s, r.len, fun i u e => by
    obtain ⟨o, h1, h2⟩ := r.sl i u e
    exact ⟨o, h1, h2.go f⟩, r.dis⟩
theorem Rel.more {Γ : Cn} {n n' : Nat} {ρ : List Sl} {F : FH} {σ : L2.St} {H : Hp} (r : Rel Γ n ρ F σ H) (h : n ≤ n') : Rel Γ n' ρ F σ H := ⟨r.ok, r.fr, r.sub.more h, r.len, r.sl, r.dis⟩
/-- a slot gets a frozen value -/
theorem Rel.set {Γ : Cn} {n : Nat} {ρ : List Sl} {F : FH} {σ : L2.St} {H : Hp} (r : Rel Γ n ρ F σ H) {i : Nat} {v : V} {t : Tr} (q : Rep Γ.g F v t) : Rel Γ n (ρ.set i (.v t)) F (σ.set i (some v)) H := by
  refine ⟨r.ok, r.fr, r.sub, by simp [r.len], fun j s e => ?_, fun j k a s u ne e1 e2 o1 o2 s1 s2 => ?_⟩
  · by_cases h : j = i
    · subst h
      rw [List.getElem?_set] at e
      rw [List.getElem?_set]
      by_cases hl : j < ρ.length
      · rw [if_pos rfl, if_pos hl] at e
        rw [if_pos rfl, if_pos (by rw [← r.len]; exact hl)]
        cases e
        exact ⟨_, rfl, v, rfl, q⟩
      · rw [if_pos rfl, if_neg hl] at e
        cases e
    · rw [List.getElem?_set_ne (Ne.symm h)] at e
      rw [List.getElem?_set_ne (Ne.symm h)]
      exact r.sl j s e
  · have nj : j ≠ i := fun z => by
      subst z
      rw [List.getElem?_set] at e1
      split at e1
      · split at e1
        · cases e1; cases o1
        · cases e1
      · rename_i z; exact z rfl
    have nk : k ≠ i := fun z => by
      subst z
      rw [List.getElem?_set] at e2
      split at e2
      · split at e2
        · cases e2; cases o2
        · cases e2
      · rename_i z; exact z rfl
    rw [List.getElem?_set_ne (Ne.symm nj)] at e1 s1
    rw [List.getElem?_set_ne (Ne.symm nk)] at e2 s2
    exact r.dis j k a s u ne e1 e2 o1 o2 s1 s2
/-! ### readings at trees -/
abbrev RE := Nat → List Sl → VQ → Prop
abbrev RT := Nat → List Sl → (Bool → Nat → Prop) → Prop
abbrev RA := Nat → List Sl → (List Tr → Nat → Prop) → Prop
structure VEnds where
  nx : Nat → List Sl → Prop
  rt : Tr → Nat → Prop
  bk : Nat → List Sl → Prop := fun _ _ => False
  ct : Nat → List Sl → Prop := fun _ _ => False
abbrev RS := VEnds → Nat → List Sl → Prop
abbrev RG := Tr → Nat → List Sl → (Nat → List Sl → Prop) → Prop
abbrev RGs := List Tr → Nat → List Sl → (Nat → List Sl → Prop) → Prop
abbrev VR2 := Tr → Tr → Nat → VQ → Prop
abbrev VR1 := Tr → Nat → VQ → Prop
abbrev VRL := List Tr → Nat → VQ → Prop
/-- what is known behind an expression -/
def Then (g : Gb) (F : FH) (H : Hp) (Q : VQ) (Q' : VK) : Prop := ∀ v t n' F' H', Fr F H F' H' → Sub g n' F' H' → Rep g F' v t → Q t n' → Q' v H'
theorem Then.here {g : Gb} {F : FH} {H : Hp} {Q : VQ} {Q' : VK} {v : V} {t : Tr} {n : Nat} (k : Then g F H Q Q') (s : Sub g n F H) (r : Rep g F v t) (q : Q t n) : Q' v H := k v t n F H (Fr.refl _ _) s r q
theorem Then.go {g : Gb} {F F' : FH} {H H' : Hp} {Q : VQ} {Q' : VK} (k : Then g F H Q Q') (f : Fr F H F' H') : Then g F' H' Q Q' := fun v t n' F2 H2 f2 s r q => k v t n' F2 H2 (f.trans f2) s r q
def lE (Γ : Cn) (τ : RE) : TE := fun σ H Q' => ∃ ρ n F Q, Rel Γ n ρ F σ H ∧ τ n ρ Q ∧ Then Γ.g F H Q Q'
def ThenT (g : Gb) (F : FH) (H : Hp) (Q : Bool → Nat → Prop) (Q' : Bool → Hp → Prop) : Prop := ∀ b n' F' H', Fr F H F' H' → Sub g n' F' H' → Q b n' → Q' b H'
def lT (Γ : Cn) (τ : RT) : TT := fun σ H Q' => ∃ ρ n F Q, Rel Γ n ρ F σ H ∧ τ n ρ Q ∧ ThenT Γ.g F H Q Q'
def ThenA (g : Gb) (F : FH) (H : Hp) (Q : List Tr → Nat → Prop) (Q' : List V → Hp → Prop) : Prop := ∀ vs ts n' F' H', Fr F H F' H' → Sub g n' F' H' → Reps g F' vs ts → Q ts n' → Q' vs H'
def lA (Γ : Cn) (τ : RA) : TA := fun σ H Q' => ∃ ρ n F Q, Rel Γ n ρ F σ H ∧ τ n ρ Q ∧ ThenA Γ.g F H Q Q'
def ThenS (Γ : Cn) (F0 : FH) (Q : Nat → List Sl → Prop) (Q' : L2.St → Hp → Prop) : Prop := ∀ ρ n F σ H, le F0 F → Rel Γ n ρ F σ H → Q n ρ → Q' σ H
structure EndsOk (Γ : Cn) (F0 : FH) (D : VEnds) (D' : Ends) : Prop where
  nx : ThenS Γ F0 D.nx D'.nx
  bk : ThenS Γ F0 D.bk D'.bk
  ct : ThenS Γ F0 D.ct D'.ct
  rt : ∀ v t n F H, Fr Γ.F0 Γ.H0 F H → Sub Γ.g n F H → Rep Γ.g F v t → D.rt t n → D'.rt v H
def lS (Γ : Cn) (τ : RS) : TS := fun D' σ H => ∃ ρ n F D, Rel Γ n ρ F σ H ∧ τ D n ρ ∧ EndsOk Γ F D D'
/-- targets: the slots vs may change, nothing else -/
def lG (Γ : Cn) (vs : List Nat) (τ : RG) : TG := fun v σ H Q' => ∃ ρ n F t Q, Rel Γ n ρ F σ H ∧ Rep Γ.g F v t ∧ τ t n ρ Q ∧ ∀ σ2 ρ2, Rel Γ n ρ2 F σ2 H → wipe σ2 vs = wipe σ vs → Q n ρ2 → Q' σ2 H
def lGs (Γ : Cn) (vs : List Nat) (τ : RGs) : TGs := fun ws σ H Q' => ∃ ρ n F ts Q, Rel Γ n ρ F σ H ∧ Reps Γ.g F ws ts ∧ τ ts n ρ Q ∧ ∀ σ2 ρ2, Rel Γ n ρ2 F σ2 H → wipe σ2 vs = wipe σ vs → Q n ρ2 → Q' σ2 H
/-- an operator by values -/
def lR (Γ : Cn) (r : VR2) : R2 := fun x y H Q' => ∃ n F tx ty Q, Γ.Ok ∧ Fr Γ.F0 Γ.H0 F H ∧ Sub Γ.g n F H ∧ Rep Γ.g F x tx ∧ Rep Γ.g F y ty ∧ r tx ty n Q ∧ Then Γ.g F H Q Q'
def lU (Γ : Cn) (r : VR1) : V → Hp → VK → Prop := fun x H Q' => ∃ n F tx Q, Γ.Ok ∧ Fr Γ.F0 Γ.H0 F H ∧ Sub Γ.g n F H ∧ Rep Γ.g F x tx ∧ r tx n Q ∧ Then Γ.g F H Q Q'
def lC (Γ : Cn) (r : VRL) : List V → Hp → VK → Prop := fun xs H Q' => ∃ n F ts Q, Γ.Ok ∧ Fr Γ.F0 Γ.H0 F H ∧ Sub Γ.g n F H ∧ Reps Γ.g F xs ts ∧ r ts n Q ∧ Then Γ.g F H Q Q'
theorem PE.imp {X : Cx} {e : Expr} {t t' : TE} (h : PE X e t) (i : ∀ σ H Q, t' σ H Q → t σ H Q) : PE X e t' := ⟨fun pins s σ H Q I q => h.run pins s σ H Q I (i _ _ _ q)⟩
theorem PT.imp {X : Cx} {e : Expr} {t t' : TT} (h : PT X e t) (i : ∀ σ H Q, t' σ H Q → t σ H Q) : PT X e t' := ⟨fun pins s σ H Q I q => h.run pins s σ H Q I (i _ _ _ q)⟩
theorem PW.imp {X : Cx} {e : Expr} {t t' : TT} (h : PW X e t) (i : ∀ σ H Q, t' σ H Q → t σ H Q) : PW X e t' := ⟨fun wh pins s σ H Q I q => h.run wh pins s σ H Q I (i _ _ _ q)⟩
theorem PA.imp {X : Cx} {e : List Expr} {t t' : TA} (h : PA X e t) (i : ∀ σ H Q, t' σ H Q → t σ H Q) : PA X e t' := ⟨fun pos pins s σ H Q I q => h.run pos pins s σ H Q I (i _ _ _ q)⟩
theorem PS.imp {X : Cx} {e : Stmt} {t t' : TS} (h : PS X e t) (i : ∀ D σ H, t' D σ H → t D σ H) : PS X e t' := ⟨fun pins s σ H D I q => h.run pins s σ H D I (i _ _ _ q)⟩
theorem PSs.imp {X : Cx} {e : List Stmt} {t t' : TS} (h : PSs X e t) (i : ∀ D σ H, t' D σ H → t D σ H) : PSs X e t' := ⟨fun pins s σ H D I q => h.run pins s σ H D I (i _ _ _ q)⟩
theorem PG.imp {X : Cx} {e : Expr} {t t' : TG} (h : PG X e t) (i : ∀ v σ H Q, t' v σ H Q → t v σ H Q) : PG X e t' := ⟨fun pins s σ H v u Q I r q => h.run pins s σ H v u Q I r (i _ _ _ _ q)⟩
theorem PGs.imp {X : Cx} {e : List Expr} {t t' : TGs} (h : PGs X e t) (i : ∀ v σ H Q, t' v σ H Q → t v σ H Q) : PGs X e t' := ⟨fun pins s σ H v u Q I r q => h.run pins s σ H v u Q I r (i _ _ _ _ q)⟩
theorem OpR.imp {X : Cx} {f : Value → Value → Sem Value} {r r' : R2} (h : OpR X f r) (i : ∀ x y H Q, r' x y H Q → r x y H Q) : OpR X f r' := fun pins s σ H x y v u Q I rx ry q => h pins s σ H x y v u Q I rx ry (i _ _ _ _ q)
theorem UnR.imp {X : Cx} {f : Value → Sem Value} {r r' : V → Hp → VK → Prop} (h : UnR X f r) (i : ∀ x H Q, r' x H Q → r x H Q) : UnR X f r' := fun pins s σ H x v Q I rx q => h pins s σ H x v Q I rx (i _ _ _ q)
theorem CallR.imp {X : Cx} {f : Value} {r r' : List V → Hp → VK → Prop} (h : CallR X f r) (i : ∀ x H Q, r' x H Q → r x H Q) : CallR X f r' := fun pins s σ H xs us Q I rx q => h pins s σ H xs us Q I rx (i _ _ _ q)
end VL
/-! expressions at trees -/
namespace VL
open PySem L2 DS PyProof.Rows
def gt : List Sl → Nat → Sl
  | [], _ => .un
  | s :: _, 0 => s
  | _ :: r, i + 1 => gt r i
theorem gt_get : ∀ {ρ : List Sl} {i : Nat} {s : Sl}, gt ρ i = s → s ≠ .un → ρ[i]? = some s
  | [], _, _, e, n => absurd e.symm n
  | s :: _, 0, _, e, _ => by rw [← e]; rfl
  | _ :: r, i + 1, s, e, n => by rw [List.getElem?_cons_succ]; exact gt_get (ρ := r) e n
def vv : Sl → Nat → VQ → Prop
  | .v t, n, Q => Q t n
  | _, _, _ => False
def vVar (i : Nat) : RE := fun n ρ Q => vv (gt ρ i) n Q
def vC (t : Tr) : RE := fun n _ Q => Q t n
def vOp (r : VR2) (a b : RE) : RE := fun n ρ Q => a n ρ fun x n1 => b n1 ρ fun y n2 => r x y n2 Q
def vUn (r : VR1) (a : RE) : RE := fun n ρ Q => a n ρ fun x n1 => r x n1 Q
def vI (C : Int → Int → Prop) (g : Int → Int → Tr) : VR2
  | .int i, .int j, n, Q => C i j ∧ Q (g i j) n
  | _, _, _, _ => False
def vI0 (g : Int → Int → Tr) : VR2
  | .int i, .int j, n, Q => Q (g i j) n
  | _, _, _, _ => False
def vU (g : Int → Tr) : VR1
  | .int i, n, Q => Q (g i) n
  | _, _, _ => False
section
variable {X : Cx} {Γ : Cn} {a b c e : Expr} {ta tb tc te : RE} {pos : Pos} {i : Nat} {x : Str}
theorem ve_var (hN : X.N[i]? = some x) (hv : Vis X.env.scope x) (hd : (x == ("__debug__" : Str)) = false := by decide) (hcd : (x == ("__classdict__" : Str)) = false := by decide) : PE X (.Name x pos) (lE Γ (vVar i)) := by
  refine PE.imp (pe_var hN hv hd hcd) fun σ H Q' ⟨ρ, n, F, Q, rel, h, k⟩ => ?_
  unfold vVar vv at h
  split at h
  · rename_i t e
    obtain ⟨o, h1, v, h2, r⟩ := rel.sl i _ (gt_get e (fun z => nomatch z))
    subst h2
    exact ⟨v, h1, k.here rel.sub r h⟩
  · exact h.elim
theorem ve_of {v : V} {t : Tr} (h : PE X e (tC v)) (r : ∀ F, Rep Γ.g F v t) : PE X e (lE Γ (vC t)) :=
  PE.imp h fun σ H Q' ⟨ρ, n, F, Q, rel, h, k⟩ => k.here rel.sub (r F) h
theorem ve_int {i j} : PE X (.Constant (.int i) j pos) (lE Γ (vC (.int i))) := ve_of pe_int fun _ => .int i
theorem ve_bl {b j} : PE X (.Constant (.bool b) j pos) (lE Γ (vC (.bl b))) := ve_of pe_bl fun _ => .bl b
theorem ve_non {j} : PE X (.Constant .none j pos) (lE Γ (vC .non)) := ve_of pe_non fun _ => .non
theorem ve_str {x j} : PE X (.Constant (.str x) j pos) (lE Γ (vC (.str x))) := ve_of pe_str fun _ => .str x
theorem ve_opq {v : V} (h : PE X e (tC v)) : PE X e (lE Γ (vC (.opq v))) := ve_of h fun _ => .opq v
theorem ve_op {op : Operator} {r : VR2} (ho : OpR X (binaryOp op) (lR Γ r)) (ha : PE X a (lE Γ ta)) (hb : PE X b (lE Γ tb)) : PE X (.BinOp a op b pos) (lE Γ (vOp r ta tb)) :=
  PE.imp (pe_op ho ha hb) fun σ H Q' ⟨ρ, n, F, Q, rel, h, k⟩ =>
    ⟨ρ, n, F, _, rel, h, fun v t n1 F1 H1 f1 s1 r1 q1 => ⟨ρ, n1, F1, _, rel.go f1 s1, q1, fun v2 t2 n2 F2 H2 f2 s2 r2 q2 => ⟨n2, F2, t, t2, Q, rel.ok, (rel.go f1 s1).fr.trans f2, s2, r1.mono f2.le, r2, q2, (k.go f1).go f2⟩⟩⟩
theorem ve_cmp {op : CmpOp} {r : VR2} (ho : OpR X (compareOp op) (lR Γ r)) (ha : PE X a (lE Γ ta)) (hb : PE X b (lE Γ tb)) (hm : behindInMarks op b = false) : PE X (.Compare a [op] [b] pos) (lE Γ (vOp r ta tb)) :=
  PE.imp (pe_cmpR ho ha hb hm) fun σ H Q' ⟨ρ, n, F, Q, rel, h, k⟩ =>
    ⟨ρ, n, F, _, rel, h, fun v t n1 F1 H1 f1 s1 r1 q1 => ⟨ρ, n1, F1, _, rel.go f1 s1, q1, fun v2 t2 n2 F2 H2 f2 s2 r2 q2 => ⟨n2, F2, t, t2, Q, rel.ok, (rel.go f1 s1).fr.trans f2, s2, r1.mono f2.le, r2, q2, (k.go f1).go f2⟩⟩⟩
theorem ve_un {op : UnaryOp} {r : VR1} (ho : UnR X (unaryOp op) (lU Γ r)) (ha : PE X a (lE Γ ta)) : PE X (.UnaryOp op a pos) (lE Γ (vUn r ta)) :=
  PE.imp (pe_un ho ha) fun σ H Q' ⟨ρ, n, F, Q, rel, h, k⟩ =>
    ⟨ρ, n, F, _, rel, h, fun v t n1 F1 H1 f1 s1 r1 q1 => ⟨n1, F1, t, Q, rel.ok, (rel.go f1 s1).fr, s1, r1, q1, k.go f1⟩⟩
/-! ### operators on ints -/
theorem ov_I {f : Value → Value → Sem Value} {C : Int → Int → Prop} {g : Int → Int → V} {g' : Int → Int → Tr} (h : OpR X f (rI C g)) (r : ∀ i j F, Rep Γ.g F (g i j) (g' i j)) : OpR X f (lR Γ (vI C g')) :=
  OpR.imp h fun x y H Q' ⟨n, F, tx, ty, Q, ok, fr, s, rx, ry, q, k⟩ => by
    cases rx with
    | int i => cases ry with
      | int j => exact ⟨i, j, rfl, rfl, q.1, k.here s (r i j F) q.2⟩
      | _ => exact q.elim
    | _ => exact q.elim
theorem ov_I0 {f : Value → Value → Sem Value} {g : Int → Int → V} {g' : Int → Int → Tr} (h : OpR X f (rI0 g)) (r : ∀ i j F, Rep Γ.g F (g i j) (g' i j)) : OpR X f (lR Γ (vI0 g')) :=
  OpR.imp h fun x y H Q' ⟨n, F, tx, ty, Q, ok, fr, s, rx, ry, q, k⟩ => by
    cases rx with
    | int i => cases ry with
      | int j => exact ⟨i, j, rfl, rfl, k.here s (r i j F) q⟩
      | _ => exact q.elim
    | _ => exact q.elim
theorem ov_add : OpR X (binaryOp .Add) (lR Γ (vI0 fun i j => .int (i + j))) := ov_I0 op_add fun i j F => .int _
theorem ov_sub : OpR X (binaryOp .Sub) (lR Γ (vI0 fun i j => .int (i - j))) := ov_I0 op_sub fun i j F => .int _
theorem ov_mul : OpR X (binaryOp .Mult) (lR Γ (vI CMulA fun i j => .int (i * j))) := ov_I op_mulA fun i j F => .int _
theorem ov_fdiv : OpR X (binaryOp .FloorDiv) (lR Γ (vI CDivW fun i j => .int (i / j))) := ov_I op_fdivW fun i j F => .int _
theorem ov_mod : OpR X (binaryOp .Mod) (lR Γ (vI (fun _ j => 0 < j) fun i j => .int (i % j))) := ov_I op_mod fun i j F => .int _
theorem ov_pow : OpR X (binaryOp .Pow) (lR Γ (vI CPow fun i j => .int (i ^ j.toNat))) := ov_I op_pow fun i j F => .int _
theorem ov_lt : OpR X (compareOp .Lt) (lR Γ (vI0 fun i j => .bl (decide (i < j)))) := ov_I0 op_lt fun i j F => .bl _
theorem ov_le : OpR X (compareOp .LtE) (lR Γ (vI0 fun i j => .bl (decide (i ≤ j)))) := ov_I0 op_le fun i j F => .bl _
theorem ov_gt : OpR X (compareOp .Gt) (lR Γ (vI0 fun i j => .bl (decide (j < i)))) := ov_I0 op_gt fun i j F => .bl _
theorem ov_ge : OpR X (compareOp .GtE) (lR Γ (vI0 fun i j => .bl (decide (j ≤ i)))) := ov_I0 op_ge fun i j F => .bl _
theorem un_neg : UnR X (unaryOp .USub) (lU Γ (vU fun i => .int (-i))) := UnR.imp L2.un_neg fun x H Q' ⟨n, F, tx, Q, ok, fr, s, rx, q, k⟩ => by
  cases rx with
  | int i => exact ⟨i, rfl, k.here s (.int _) q⟩
  | _ => exact q.elim
/-- == and != of ints, bools, texts and None -/
def vEqS (neg : Bool) : VR2
  | .int i, .int j, n, Q => Q (.bl (if neg then !decide (i = j) else decide (i = j))) n
  | .str i, .str j, n, Q => Q (.bl (if neg then !decide (i = j) else decide (i = j))) n
  | .bl i, .bl j, n, Q => Q (.bl (if neg then !decide (i = j) else decide (i = j))) n
  | _, _, _, _ => False
theorem dec_congr {p q : Prop} [Decidable p] [Decidable q] (h : p ↔ q) : decide p = decide q := by
  by_cases hp : p
  · rw [decide_eq_true hp, decide_eq_true (h.mp hp)]
  · rw [decide_eq_false hp, decide_eq_false (fun z => hp (h.mpr z))]
theorem ov_eqS : OpR X (compareOp .Eq) (lR Γ (vEqS false)) := OpR.imp op_eq fun x y H Q' ⟨n, F, tx, ty, Q, ok, fr, s, rx, ry, q, k⟩ => by
  cases rx with
  | int i => cases ry with
    | int j => exact ⟨rfl, k.here s (.bl _) (by rw [dec_congr (q := i = j) (by simp)]; exact q)⟩
    | _ => exact q.elim
  | str i => cases ry with
    | str j => exact ⟨rfl, k.here s (.bl _) (by rw [dec_congr (q := i = j) (by simp)]; exact q)⟩
    | _ => exact q.elim
  | bl i => cases ry with
    | bl j => exact ⟨rfl, k.here s (.bl _) (by rw [dec_congr (q := i = j) (by simp)]; exact q)⟩
    | _ => exact q.elim
  | _ => exact q.elim
theorem ov_neS : OpR X (compareOp .NotEq) (lR Γ (vEqS true)) := OpR.imp op_ne fun x y H Q' ⟨n, F, tx, ty, Q, ok, fr, s, rx, ry, q, k⟩ => by
  cases rx with
  | int i => cases ry with
    | int j => exact ⟨rfl, k.here s (.bl _) (by rw [dec_congr (q := i = j) (by simp)]; exact q)⟩
    | _ => exact q.elim
  | str i => cases ry with
    | str j => exact ⟨rfl, k.here s (.bl _) (by rw [dec_congr (q := i = j) (by simp)]; exact q)⟩
    | _ => exact q.elim
  | bl i => cases ry with
    | bl j => exact ⟨rfl, k.here s (.bl _) (by rw [dec_congr (q := i = j) (by simp)]; exact q)⟩
    | _ => exact q.elim
  | _ => exact q.elim
/-- x is None -/
def isNonT : Tr → Option Bool
  | .non => some true
  | .opq _ => none
  | _ => some false
def isNQ (neg : Bool) : Option Bool → Nat → VQ → Prop
  | some b, n, Q => Q (.bl (if neg then !b else b)) n
  | none, _, _ => False
def vIsN (neg : Bool) : VR2
  | t, .non, n, Q => isNQ neg (isNonT t) n Q
  | _, _, _, _ => False
theorem isNon_rep {g : Gb} {F : FH} {v : V} {t : Tr} {b : Bool} (r : Rep g F v t) (h : isNonT t = some b) : decide (v = V.non) = b := by
  cases r <;> cases h <;> first | rfl | simp
theorem ov_isN : OpR X (compareOp .Is) (lR Γ (vIsN false)) := OpR.imp op_isN fun x y H Q' ⟨n, F, tx, ty, Q, ok, fr, s, rx, ry, q, k⟩ => by
  cases ry with
  | non =>
    have q : isNQ false (isNonT tx) n Q := q
    cases e : isNonT tx with
    | none => rw [e] at q; exact q.elim
    | some b =>
      rw [e] at q
      exact ⟨rfl, k.here s (.bl _) (by rw [isNon_rep rx e]; exact q)⟩
  | _ => exact q.elim
theorem ov_notN : OpR X (compareOp .IsNot) (lR Γ (vIsN true)) := OpR.imp op_notN fun x y H Q' ⟨n, F, tx, ty, Q, ok, fr, s, rx, ry, q, k⟩ => by
  cases ry with
  | non =>
    have q : isNQ true (isNonT tx) n Q := q
    cases e : isNonT tx with
    | none => rw [e] at q; exact q.elim
    | some b =>
      rw [e] at q
      exact ⟨rfl, k.here s (.bl _) (by rw [isNon_rep rx e]; exact q)⟩
  | _ => exact q.elim
/-! ### chains, and, or, not, if -/
def vbl : Tr → Nat → (Bool → Nat → Prop) → Prop
  | .bl b, n, Q => Q b n
  | _, _, _ => False
/-- a branch: stays closed until it is asked -/
def brE (b : Bool) (t u : RE) (n : Nat) (ρ : List Sl) (Q : VQ) : Prop := if b = true then t n ρ Q else u n ρ Q
def brT (b : Bool) (t u : RT) (n : Nat) (ρ : List Sl) (Q : Bool → Nat → Prop) : Prop := if b = true then t n ρ Q else u n ρ Q
def vIf (c : RT) (t u : RE) : RE := fun n ρ Q => c n ρ fun b n1 => brE b t u n1 ρ Q
def vAndV (a b : RE) : RE := fun n ρ Q => a n ρ fun x n1 => vbl x n1 fun k n2 => brE k b (vC (.bl false)) n2 ρ Q
def vOrV (a b : RE) : RE := fun n ρ Q => a n ρ fun x n1 => vbl x n1 fun k n2 => brE k (vC (.bl true)) b n2 ρ Q
def vNotV (a : RE) : RE := fun n ρ Q => a n ρ fun x n1 => vbl x n1 fun k n2 => Q (.bl (!k)) n2
def vChain (r r' : VR2) (a b c : RE) : RE := fun n ρ Q => a n ρ fun x n1 => b n1 ρ fun y n2 => r x y n2 fun z n3 => vbl z n3 fun k n4 => brE k (fun n ρ Q => c n ρ fun w n5 => r' y w n5 Q) (vC (.bl false)) n4 ρ Q
theorem vbl_rep {g : Gb} {F : FH} {v : V} {t : Tr} {n : Nat} {Q : Bool → Nat → Prop} (r : Rep g F v t) (h : vbl t n Q) : ∃ b, v = .bl b ∧ Q b n := by
  cases r with
  | bl b => exact ⟨b, rfl, h⟩
  | _ => exact h.elim
theorem ve_and {rest : List Expr} (ha : PE X a (lE Γ ta)) (hb : PE X (.BoolOp .And (b :: rest) pos) (lE Γ tb)) : PE X (.BoolOp .And (a :: b :: rest) pos) (lE Γ (vAndV ta tb)) :=
  PE.imp (pe_and ha hb) fun σ H Q' ⟨ρ, n, F, Q, rel, h, k⟩ => ⟨ρ, n, F, _, rel, h, fun v t n1 F1 H1 f1 s1 r1 q1 => by
    obtain ⟨b, rfl, q⟩ := vbl_rep r1 q1
    refine ⟨b, rfl, ?_⟩
    cases b with
    | true => exact iteT ⟨ρ, n1, F1, _, rel.go f1 s1, (show (if true = true then tb n1 ρ Q else _) from q), k.go f1⟩
    | false => exact iteF ((k.go f1).here s1 (.bl _) (show Q (.bl false) n1 from q))⟩
theorem ve_or {rest : List Expr} (ha : PE X a (lE Γ ta)) (hb : PE X (.BoolOp .Or (b :: rest) pos) (lE Γ tb)) : PE X (.BoolOp .Or (a :: b :: rest) pos) (lE Γ (vOrV ta tb)) :=
  PE.imp (pe_or ha hb) fun σ H Q' ⟨ρ, n, F, Q, rel, h, k⟩ => ⟨ρ, n, F, _, rel, h, fun v t n1 F1 H1 f1 s1 r1 q1 => by
    obtain ⟨b, rfl, q⟩ := vbl_rep r1 q1
    refine ⟨b, rfl, ?_⟩
    cases b with
    | true => exact iteT ((k.go f1).here s1 (.bl _) (show Q (.bl true) n1 from q))
    | false => exact iteF ⟨ρ, n1, F1, _, rel.go f1 s1, (show tb n1 ρ Q from q), k.go f1⟩⟩
theorem ve_one {op} (h : PE X a (lE Γ ta)) : PE X (.BoolOp op [a] pos) (lE Γ ta) := pe_one h
theorem ve_not (ha : PE X a (lE Γ ta)) : PE X (.UnaryOp .Not a pos) (lE Γ (vNotV ta)) :=
  PE.imp (pe_not ha) fun σ H Q' ⟨ρ, n, F, Q, rel, h, k⟩ => ⟨ρ, n, F, _, rel, h, fun v t n1 F1 H1 f1 s1 r1 q1 => by
    obtain ⟨b, rfl, q⟩ := vbl_rep r1 q1
    exact ⟨b, rfl, (k.go f1).here s1 (.bl _) q⟩⟩
theorem ve_ifExp {tA : RT} (hc : PT X c (lT Γ tA)) (ha : PE X a (lE Γ ta)) (hb : PE X b (lE Γ tb)) : PE X (.IfExp c a b pos) (lE Γ (vIf tA ta tb)) :=
  PE.imp (pe_ifExp hc ha hb) fun σ H Q' ⟨ρ, n, F, Q, rel, h, k⟩ => ⟨ρ, n, F, _, rel, h, fun b n1 F1 H1 f1 s1 q1 => by
    cases b with
    | true => exact iteT ⟨ρ, n1, F1, Q, rel.go f1 s1, (show ta n1 ρ Q from q1), k.go f1⟩
    | false => exact iteF ⟨ρ, n1, F1, Q, rel.go f1 s1, (show tb n1 ρ Q from q1), k.go f1⟩⟩
theorem ve_chain {op op' : CmpOp} {r r' : VR2} (ho : OpR X (compareOp op) (lR Γ r)) (ho' : OpR X (compareOp op') (lR Γ r')) (ha : PE X a (lE Γ ta)) (hb : PE X b (lE Γ tb)) (hc : PE X c (lE Γ tc)) (hm : lastMarks [op, op'] [b, c] = false := by rfl) : PE X (.Compare a [op, op'] [b, c] pos) (lE Γ (vChain r r' ta tb tc)) :=
  PE.imp (pe_chain ho ho' ha hb hc hm) fun σ H Q' ⟨ρ, n, F, Q, rel, h, k⟩ => ⟨ρ, n, F, _, rel, h, fun v t n1 F1 H1 f1 s1 r1 q1 => ⟨ρ, n1, F1, _, rel.go f1 s1, q1, fun v2 t2 n2 F2 H2 f2 s2 r2 q2 =>
    ⟨n2, F2, t, t2, _, rel.ok, (rel.go f1 s1).fr.trans f2, s2, r1.mono f2.le, r2, q2, fun v3 t3 n3 F3 H3 f3 s3 r3 q3 => by
      obtain ⟨b, rfl, q⟩ := vbl_rep r3 q3
      refine ⟨b, rfl, ?_⟩
      have rel3 := ((rel.go f1 s1).go f2 s2).go f3 s3
      have k3 := ((k.go f1).go f2).go f3
      cases b with
      | true => exact iteT ⟨ρ, n3, F3, _, rel3, (show tc n3 ρ _ from q), fun v4 t4 n4 F4 H4 f4 s4 r4 q4 => ⟨n4, F4, t2, t4, Q, rel.ok, (rel3.go f4 s4).fr, s4, (r2.mono f3.le).mono f4.le, r4, q4, k3.go f4⟩⟩
      | false => exact iteF (k3.here s3 (.bl _) (show Q (.bl false) n3 from q))⟩⟩⟩
/-! ### tests -/
def vTest (a : RE) : RT := fun n ρ Q => a n ρ fun x n1 => vbl x n1 Q
def vNot (c : RT) : RT := fun n ρ Q => c n ρ fun b n1 => Q (!b) n1
def vYes : RT := fun n _ Q => Q true n
def vNo : RT := fun n _ Q => Q false n
def vAnd (a b : RT) : RT := fun n ρ Q => a n ρ fun k n1 => brT k b vNo n1 ρ Q
def vOr (a b : RT) : RT := fun n ρ Q => a n ρ fun k n1 => brT k vYes b n1 ρ Q
variable {sa sb : RT}
theorem vt_of {e : Expr} {t : RE} (h : PT X e (tTest (lE Γ t))) : PT X e (lT Γ (vTest t)) :=
  PT.imp h fun σ H Q' ⟨ρ, n, F, Q, rel, h, k⟩ => ⟨ρ, n, F, _, rel, h, fun v t n1 F1 H1 f1 s1 r1 q1 => by
    obtain ⟨b, rfl, q⟩ := vbl_rep r1 q1
    exact ⟨b, rfl, k b n1 F1 H1 f1 s1 q⟩⟩
theorem tTest_op {r : VR2} {σ : L2.St} {H : Hp} {Q' : Bool → Hp → Prop} (h : tTest (lE Γ (vOp r ta tb)) σ H Q') : tTest (tOp (lR Γ r) (lE Γ ta) (lE Γ tb)) σ H Q' := by
  obtain ⟨ρ, n, F, Q, rel, h, k⟩ := h
  exact ⟨ρ, n, F, _, rel, h, fun v t n1 F1 H1 f1 s1 r1 q1 => ⟨ρ, n1, F1, _, rel.go f1 s1, q1, fun v2 t2 n2 F2 H2 f2 s2 r2 q2 => ⟨n2, F2, t, t2, Q, rel.ok, (rel.go f1 s1).fr.trans f2, s2, r1.mono f2.le, r2, q2, (k.go f1).go f2⟩⟩⟩
theorem vt_cmp {op : CmpOp} {r : VR2} (ho : OpR X (compareOp op) (lR Γ r)) (ha : PE X a (lE Γ ta)) (hb : PE X b (lE Γ tb)) (hm : behindInMarks op b = false) : PT X (.Compare a [op] [b] pos) (lT Γ (vTest (vOp r ta tb))) :=
  vt_of (PT.imp (pt_cmpR ho ha hb hm) fun σ H Q' h => tTest_op h)
theorem vt_val {e : Expr} {t : RE} (h : PE X e (lE Γ t)) (he : ∀ whole, isTrue e X.env whole = (do let v ← whole; standAt e.pos; holding [v] (truthy v)) := by intro _; rfl) : PT X e (lT Γ (vTest t)) := vt_of (pt_val h he)
theorem vt_not (ha : PT X a (lT Γ sa)) : PT X (.UnaryOp .Not a pos) (lT Γ (vNot sa)) :=
  PT.imp (pt_not ha) fun σ H Q' ⟨ρ, n, F, Q, rel, h, k⟩ => ⟨ρ, n, F, _, rel, h, fun b n1 F1 H1 f1 s1 q1 => k (!b) n1 F1 H1 f1 s1 q1⟩
theorem ThenT.go {g : Gb} {F F' : FH} {H H' : Hp} {Q : Bool → Nat → Prop} {Q' : Bool → Hp → Prop} (k : ThenT g F H Q Q') (f : Fr F H F' H') : ThenT g F' H' Q Q' := fun b n' F2 H2 f2 s q => k b n' F2 H2 (f.trans f2) s q
theorem vw_and1 (ha : PT X a (lT Γ sa)) : PW X (.BoolOp .And [a] pos) (lT Γ sa) := pw_and1 ha
theorem vw_or1 (ha : PT X a (lT Γ sa)) : PW X (.BoolOp .Or [a] pos) (lT Γ sa) := pw_or1 ha
theorem vw_and {rest : List Expr} (ha : PT X a (lT Γ sa)) (hb : PW X (.BoolOp .And (b :: rest) pos) (lT Γ sb)) : PW X (.BoolOp .And (a :: b :: rest) pos) (lT Γ (vAnd sa sb)) :=
  PW.imp (pw_and ha hb) fun σ H Q' ⟨ρ, n, F, Q, rel, h, k⟩ => ⟨ρ, n, F, _, rel, h, fun b n1 F1 H1 f1 s1 q1 => by
    cases b with
    | true => exact iteT ⟨ρ, n1, F1, Q, rel.go f1 s1, (show sb n1 ρ Q from q1), k.go f1⟩
    | false => exact iteF (k false n1 F1 H1 f1 s1 (show Q false n1 from q1))⟩
theorem vw_or {rest : List Expr} (ha : PT X a (lT Γ sa)) (hb : PW X (.BoolOp .Or (b :: rest) pos) (lT Γ sb)) : PW X (.BoolOp .Or (a :: b :: rest) pos) (lT Γ (vOr sa sb)) :=
  PW.imp (pw_or ha hb) fun σ H Q' ⟨ρ, n, F, Q, rel, h, k⟩ => ⟨ρ, n, F, _, rel, h, fun b n1 F1 H1 f1 s1 q1 => by
    cases b with
    | true => exact iteT (k true n1 F1 H1 f1 s1 (show Q true n1 from q1))
    | false => exact iteF ⟨ρ, n1, F1, Q, rel.go f1 s1, (show sb n1 ρ Q from q1), k.go f1⟩⟩
theorem vt_chain {op op' : CmpOp} {r r' : VR2} (ho : OpR X (compareOp op) (lR Γ r)) (ho' : OpR X (compareOp op') (lR Γ r')) (ha : PE X a (lE Γ ta)) (hb : PE X b (lE Γ tb)) (hc : PE X c (lE Γ tc)) (hm : lastMarks [op, op'] [b, c] = false := by rfl) : PT X (.Compare a [op, op'] [b, c] pos) (lT Γ (vTest (vChain r r' ta tb tc))) :=
  vt_of (PT.imp (pt_chain ho ho' ha hb hc hm) fun σ H Q' ⟨ρ, n, F, Q, rel, h, k⟩ => ⟨ρ, n, F, _, rel, h, fun v t n1 F1 H1 f1 s1 r1 q1 => ⟨ρ, n1, F1, _, rel.go f1 s1, q1, fun v2 t2 n2 F2 H2 f2 s2 r2 q2 =>
    ⟨n2, F2, t, t2, _, rel.ok, (rel.go f1 s1).fr.trans f2, s2, r1.mono f2.le, r2, q2, fun v3 t3 n3 F3 H3 f3 s3 r3 q3 => by
      obtain ⟨b, rfl, q⟩ := vbl_rep r3 q3
      refine ⟨b, rfl, ?_⟩
      have rel3 := ((rel.go f1 s1).go f2 s2).go f3 s3
      have k3 := ((k.go f1).go f2).go f3
      cases b with
      | true => exact iteT ⟨ρ, n3, F3, _, rel3, (show tc n3 ρ _ from q), fun v4 t4 n4 F4 H4 f4 s4 r4 q4 => ⟨n4, F4, t2, t4, Q, rel.ok, (rel3.go f4 s4).fr, s4, (r2.mono f3.le).mono f4.le, r4, q4, k3.go f4⟩⟩
      | false => exact iteF (k3.here s3 (.bl _) (show Q (.bl false) n3 from q))⟩⟩⟩)
/-! ### argument lists, displays -/
def vNil : RA := fun n _ Q => Q [] n
def vCons (a : RE) (r : RA) : RA := fun n ρ Q => a n ρ fun x n1 => r n1 ρ fun xs n2 => Q (x :: xs) n2
variable {es : List Expr} {tl : RA}
theorem ThenA.go {g : Gb} {F F' : FH} {H H' : Hp} {Q : List Tr → Nat → Prop} {Q' : List V → Hp → Prop} (k : ThenA g F H Q Q') (f : Fr F H F' H') : ThenA g F' H' Q Q' := fun b ts n' F2 H2 f2 s r q => k b ts n' F2 H2 (f.trans f2) s r q
theorem va_nil : PA X [] (lA Γ vNil) := PA.imp pa_nil fun σ H Q' ⟨ρ, n, F, Q, rel, h, k⟩ => k [] [] n F H (Fr.refl _ _) rel.sub .nil h
theorem va_cons (ha : PE X e (lE Γ te)) (hr : PA X es (lA Γ tl)) (hs : starEach (e :: es) X.env = (false, eval e X.env) :: starEach es X.env := by rfl) : PA X (e :: es) (lA Γ (vCons te tl)) :=
  PA.imp (pa_cons ha hr hs) fun σ H Q' ⟨ρ, n, F, Q, rel, h, k⟩ => ⟨ρ, n, F, _, rel, h, fun v t n1 F1 H1 f1 s1 r1 q1 => ⟨ρ, n1, F1, _, rel.go f1 s1, q1, fun vs ts n2 F2 H2 f2 s2 r2 q2 => k _ _ n2 F2 H2 (f1.trans f2) s2 (.cons (r1.mono f2.le) r2) q2⟩⟩
def vTup (l : RA) : RE := fun n ρ Q => l n ρ fun ts n1 => ts.length ≤ sizeLine ∧ Q (.tup ts) n1
def vLst (l : RA) : RE := fun n ρ Q => l n ρ fun ts n1 => ts.length ≤ sizeLine ∧ Q (.lst ts) n1
theorem ve_tup {x1} (h : PA X es (lA Γ tl)) : PE X (.Tuple es x1 pos) (lE Γ (vTup tl)) :=
  PE.imp (pe_tup h) fun σ H Q' ⟨ρ, n, F, Q, rel, h, k⟩ => ⟨ρ, n, F, _, rel, h, fun vs ts n1 F1 H1 f1 s1 r1 q1 => ⟨by rw [r1.length]; exact q1.1, fun p hp => by
    obtain ⟨f2, s2⟩ := alloc (o := .tup vs) s1 hp
    exact (k.go f1) _ _ n1 _ _ f2 s2 (.tup (.inl (.inl (hp_eq.mpr updF_same))) (r1.mono f2.le)) q1.2⟩⟩
theorem ve_lst (h : PA X es (lA Γ tl)) : PE X (.List es pos) (lE Γ (vLst tl)) :=
  PE.imp (pe_lst h) fun σ H Q' ⟨ρ, n, F, Q, rel, h, k⟩ => ⟨ρ, n, F, _, rel, h, fun vs ts n1 F1 H1 f1 s1 r1 q1 => ⟨by rw [r1.length]; exact q1.1, fun p hp => by
    obtain ⟨f2, s2⟩ := alloc (o := .lst vs) s1 hp
    exact (k.go f1) _ _ n1 _ _ f2 s2 (.lst updF_same (r1.mono f2.le)) q1.2⟩⟩
/-! ### fields -/
def lkQ : Option Tr → Nat → VQ → Prop
  | some t, n, Q => Q t n
  | none, _, _ => False
theorem lkQ_of {o : Option Tr} {n : Nat} {Q : VQ} (h : lkQ o n Q) : ∃ t, o = some t ∧ Q t n := by
  cases o with
  | some t => exact ⟨t, rfl, h⟩
  | none => exact h.elim
def fldC (C : Addr) (f : Str) : Tr → Nat → VQ → Prop
  | .ins C' fs, n, Q => C' = C ∧ lkQ (fs.lookup f) n Q
  | _, _, _ => False
/-- x.f of an instance of the class C -/
def vFldC (C : Addr) (a : RE) (f : Str) : RE := fun n ρ Q => a n ρ fun x n1 => fldC C f x n1 Q
theorem ve_fld {C : Addr} {f : Str} (hK : X.K = Γ.g.K) (hn : NoAttr X.K C f) (he : PE X e (lE Γ te)) (hb : attributeBase e f X.env (eval e X.env) = eval e X.env) : PE X (.Attribute e f pos) (lE Γ (vFldC C te f)) :=
  PE.imp (pe_fld he hb) fun σ H Q' ⟨ρ, n, F, Q, rel, h, k⟩ => ⟨ρ, n, F, _, rel, h, fun v t n1 F1 H1 f1 s1 r1 q1 => by
    cases r1 with
    | ins e c r =>
      obtain ⟨rfl, q1⟩ := q1
      obtain ⟨t, l, q⟩ := lkQ_of q1
      obtain ⟨w, l', rw'⟩ := r.lookup l
      exact ⟨_, _, _, _, w, rfl, s1.at_ e, by rw [hK]; exact c.cl, hn, l', (k.go f1).here s1 rw' q⟩
    | _ => exact q1.elim⟩
/-- self.f, self in the slot i and not frozen yet -/
def fldO (C : Addr) (f : Str) : Sl → Nat → VQ → Prop
  | .oi C' _ _ fs, n, Q => C' = C ∧ lkQ (fs.lookup f) n Q
  | _, _, _ => False
def vFldO (C : Addr) (i : Nat) (f : Str) : RE := fun n ρ Q => fldO C f (gt ρ i) n Q
theorem ve_fldO {C : Addr} {f : Str} {p : Pos} (hK : X.K = Γ.g.K) (hn : NoAttr X.K C f) (hN : X.N[i]? = some x) (hv : Vis X.env.scope x) (hb : attributeBase (.Name x p) f X.env (eval (.Name x p) X.env) = eval (.Name x p) X.env) (hd : (x == ("__debug__" : Str)) = false := by decide) (hcd : (x == ("__classdict__" : Str)) = false := by decide) : PE X (.Attribute (.Name x p) f pos) (lE Γ (vFldO C i f)) :=
  PE.imp (pe_fld (pe_var hN hv hd hcd) hb) fun σ H Q' ⟨ρ, n, F, Q, rel, h, k⟩ => by
    have h : fldO C f (gt ρ i) n Q := h
    cases eg : gt ρ i with
    | oi C' a dx fs =>
      rw [eg] at h
      obtain ⟨ec, hq⟩ := h
      subst ec
      obtain ⟨t, l, q⟩ := lkQ_of hq
      obtain ⟨o, h1, fvs, h2, h3, h4, h5, c, r⟩ := rel.sl i _ (gt_get eg (fun z => nomatch z))
      subst h2
      obtain ⟨w, l', rw'⟩ := r.lookup l
      exact ⟨_, h1, a, _, dx, fvs, w, rfl, h3, by rw [hK]; exact c.cl, hn, l', k.here rel.sub rw' q⟩
    | _ => rw [eg] at h; exact h.elim
end
end VL
/-! promises and calls at trees -/
namespace VL
open PySem L2 DS PyProof.Rows
abbrev VSp := List Tr → Nat → VQ → XQ → Prop
def ThenX (g : Gb) (F : FH) (H : Hp) (x : XQ) (E : XK) : Prop := ∀ C d fvs fts n' F' H', Fr F H F' H' → Sub g n' F' H' → XAt H' d fvs → RepF g F' fvs fts → x C fts n' → E (.ref C) d H'
def lSp (g : Gb) (m : Nat) (sp : VSp) : Sp := fun vs H Q' E => ∃ n F ts Q x, ts.length = m ∧ Sub g n F H ∧ Reps g F vs ts ∧ sp ts n Q x ∧ Then g F H Q Q' ∧ ThenX g F H x E
theorem lSp.len {g : Gb} {m : Nat} {sp : VSp} {vs : List V} {H : Hp} {Q' : VK} {E : XK} (h : lSp g m sp vs H Q' E) : vs.length = m := by
  obtain ⟨n, F, ts, Q, x, hl, s, r, _⟩ := h
  rw [r.length, hl]
theorem Cn.Ok.thenX {Γ : Cn} (ok : Γ.Ok) {F : FH} {H : Hp} (f : Fr Γ.F0 Γ.H0 F H) : ThenX Γ.g F H Γ.x Γ.E := fun C d fvs fts n' F' H' f' s' xa rf hx => ok.out C d fvs fts n' F' H' (f.trans f') s' xa rf hx
/-- __init__: the fields that self has at its end -/
abbrev VIp := List Tr → Nat → (List (Str × Tr) → Nat → Prop) → XQ → Prop
def lIp (g : Gb) (C : Addr) (m : Nat) (sp : VIp) : Sp := fun vs H Q' E => ∃ (H0 : Hp) (x dx : Addr) (ws : List V) (n : Nat) (F : FH) (ts : List Tr) (Q : List (Str × Tr) → Nat → Prop) (xq : XQ), vs = .ref x :: ws ∧ H0 x = none ∧ H0 dx = none ∧ dx ≠ x ∧ H = upd (upd H0 dx (.own x)) x (.ins C dx []) ∧
  OwnC g.K C ∧ ts.length = m ∧ Sub g n F H0 ∧ Reps g F ws ts ∧ sp ts n Q xq ∧ (∀ fvs fts n' F' H', Fr F H0 F' H' → Sub g n' F' H' → H' x = some (.ins C dx fvs) → F' x = none → RepF g F' fvs fts → Q fts n' → Q' .non H') ∧ ThenX g F H0 xq E
theorem lIp.len {g : Gb} {C : Addr} {m : Nat} {sp : VIp} {vs : List V} {H : Hp} {Q' : VK} {E : XK} (h : lIp g C m sp vs H Q' E) : vs.length = m + 1 := by
  obtain ⟨H0, x, dx, ws, n, F, ts, Q, xq, e, _, _, _, _, _, hl, s, r, _⟩ := h
  rw [e, List.length_cons, r.length, hl]
/-- an object is frozen -/
theorem freeze {g : Gb} {n : Nat} {F : FH} {H : Hp} {p : Addr} {o : HO} (s : Sub g n F H) (e : H p = some o) (f : F p = none) (no : ∀ ps, o ≠ .tbl ps := by intro _ z; cases z) : le F (updF F p (.ob o)) ∧ Sub g n (updF F p (.ob o)) H := by
  refine ⟨le_updF f, fun a u h => ?_, fun a h => ?_, s.tab, fun a ps h => ?_⟩
  · have h' := hp_eq.mp h
    by_cases q : a = p
    · subst q
      rw [updF_same] at h'
      cases h'
      exact e
    · rw [updF_ne q] at h'
      exact s.at_ h'
  · have q : a ≠ p := fun z => by subst z; rw [updF_same] at h; cases h
    rw [updF_ne q] at h
    obtain ⟨c, ns, k, l, h1, h2, h3⟩ := (s.pen a h).ex
    exact ⟨c, ns, k, l, h1, le_updF f c _ h2, h3⟩
  · by_cases q : a = p
    · subst q
      rw [updF_same] at h
      cases h
      exact no _ rfl
    · rw [updF_ne q] at h
      exact s.nt a ps h
theorem Fr.frz {F F' : FH} {H H' : Hp} {p : Addr} {o : FO} (f : Fr F H F' H') (e : nt H p = none) (e' : F' p = none) : Fr F H (updF F' p o) H' := by
  refine ⟨f.le.trans (le_updF e'), fun a h => ?_, f.keep, f.there⟩
  by_cases q : a = p
  · right; rw [q]; exact e
  · rw [updF_ne q] at h; exact f.fresh a h
def vCall (m : Nat) (x : XQ) (sp : VSp) (dts : List Tr) (a : RA) : RE := fun n ρ Q => a n ρ fun ts n1 => (ts ++ dts).length = m ∧ sp (ts ++ dts) n1 Q x
def methQ (C : Addr) (m : Str) : Tr → Nat → (Tr → Nat → Prop) → Prop
  | .ins C' fs, n, Q => C' = C ∧ fs.lookup m = none ∧ Q (.ins C' fs) n
  | _, _, _ => False
def vMeth (C : Addr) (nm : Str) (m : Nat) (x : XQ) (sp : VSp) (dts : List Tr) (a : RE) (l : RA) : RE := fun n ρ Q => a n ρ fun t n1 => methQ C nm t n1 fun t n2 => l n2 ρ fun ts n3 => (t :: (ts ++ dts)).length = m ∧ sp (t :: (ts ++ dts)) n3 Q x
def vMake (C : Addr) (m : Nat) (x : XQ) (sp : VIp) (dts : List Tr) (a : RA) : RE := fun n ρ Q => a n ρ fun ts n1 => (ts ++ dts).length = m ∧ sp (ts ++ dts) n1 (fun fs n2 => Q (.ins C fs) n2) x
section
variable {X : Cx} {Γ : Cn} {k : Nat} {f C : Addr} {fd : FuncData} {ps : List Str} {m : Nat} {sp : VSp} {si : VIp} {dvs : List V} {dts : List Tr} {ds : List Value} {x nm : Str} {p pos apos : Pos} {e o : Expr} {es : List Expr} {ta : RE} {tl : RA}
theorem call_in {σ : L2.St} {H : Hp} {Q' : VK} (hd : ∀ F, Reps Γ.g F dvs dts) (h : lE Γ (vCall m Γ.x sp dts tl) σ H Q') : tCall (lSp Γ.g m sp) dvs Γ.E (lA Γ tl) σ H Q' := by
  obtain ⟨ρ, n, F, Q, rel, h, kk⟩ := h
  exact ⟨ρ, n, F, _, rel, h, fun vs ts n1 F1 H1 f1 s1 r1 q1 => ⟨n1, F1, ts ++ dts, Q, Γ.x, q1.1, s1, r1.append (hd F1), q1.2, kk.go f1, rel.ok.thenX (rel.fr.trans f1)⟩⟩
theorem ve_call (F : FnOk X.prog X.w X.K X.mg X.base (L2.CX X.prog X.w) k f fd ps (lSp Γ.g m sp)) (hr : Room k X.A) (hg : Gl X x) (hm : X.mg x = some (.ref f)) (hk : PySem.W.keepIn X.K (.ref f) = true) (hb : Binds X.K fd ps ds) (hd : Vals dvs ds) (hdt : ∀ F, Reps Γ.g F dvs dts) (hx : Passes (L2.CX X.prog X.w) X Γ.E) (ha : PA X (e :: es) (lA Γ tl))
    (hdb : (x == ("__debug__" : Str)) = false := by decide) (he : starEach (e :: es) X.env = (false, eval e X.env) :: starEach es X.env := by rfl) (hpl : (backTo pos (starEach es X.env)).any (·.1) = false := by rfl) : PE X (.Call (.Name x p) (e :: es) [] pos) (lE Γ (vCall m Γ.x sp dts tl)) :=
  PE.imp (pe_call F hr hg hm hk hb hd hx ha hdb he hpl) fun σ H Q' h => call_in hdt h
theorem ve_call0 (F : FnOk X.prog X.w X.K X.mg X.base (L2.CX X.prog X.w) k f fd ps (lSp Γ.g m sp)) (hr : Room k X.A) (hg : Gl X x) (hm : X.mg x = some (.ref f)) (hk : PySem.W.keepIn X.K (.ref f) = true) (hb : Binds X.K fd ps ds) (hd : Vals dvs ds) (hdt : ∀ F, Reps Γ.g F dvs dts) (hx : Passes (L2.CX X.prog X.w) X Γ.E)
    (hdb : (x == ("__debug__" : Str)) = false := by decide) : PE X (.Call (.Name x p) [] [] pos) (lE Γ (vCall m Γ.x sp dts vNil)) :=
  PE.imp (pe_call0 F hr hg hm hk hb hd hx hdb) fun σ H Q' h => by
    obtain ⟨ρ, n, F, Q, rel, h, kk⟩ := h
    exact ⟨n, F, [] ++ dts, Q, Γ.x, h.1, rel.sub, (Reps.nil).append (hdt F), h.2, kk, rel.ok.thenX rel.fr⟩
theorem ve_meth {pl : Sem Bool} (he : PE X o (lE Γ ta)) (c : Cls X.K C) (hm : Meth X.K C nm f) (F : FnOk X.prog X.w X.K X.mg X.base (L2.CX X.prog X.w) k f fd ps (lSp Γ.g m sp)) (hr : Room k X.A) (hb : Binds X.K fd ps ds) (hd : Vals dvs ds) (hdt : ∀ F, Reps Γ.g F dvs dts) (hx : Passes (L2.CX X.prog X.w) X Γ.E) (ha : PA X (e :: es) (lA Γ tl))
    (hst : starEach (e :: es) X.env = (false, eval e X.env) :: starEach es X.env := by rfl) (hpl : (backTo pos (starEach es X.env)).any (·.1) = false := by rfl)
    (ht : eval (.Call (.Attribute o nm apos) (e :: es) [] pos) X.env = (do
      let ov ← eval o X.env
      standAt apos.atName
      let (f, first) ← holding [ov] (getMethod ov nm pl)
      callWith pos f first (backTo pos (starEach (e :: es) X.env)) (backToKw pos (keywordEach [] X.env))) := by rfl) :
    PE X (.Call (.Attribute o nm apos) (e :: es) [] pos) (lE Γ (vMeth C nm m Γ.x sp dts ta tl)) :=
  PE.imp (pe_meth (pl := pl) he c hm F hr hb hd hx ha hst hpl ht) fun σ H Q' ⟨ρ, n, F, Q, rel, h, kk⟩ => ⟨ρ, n, F, _, rel, h, fun v t n1 F1 H1 f1 s1 r1 q1 => by
    cases r1 with
    | ins e1 c1 r1 =>
      obtain ⟨rfl, l, q⟩ := q1
      refine ⟨_, _, _, rfl, s1.at_ e1, r1.lookup_none l, ρ, n1, F1, _, rel.go f1 s1, q, fun vs ts n2 F2 H2 f2 s2 r2 q2 => ⟨n2, F2, _, Q, Γ.x, q2.1, s2, .cons ((Rep.ins e1 c1 r1).mono f2.le) (r2.append (hdt F2)), q2.2, (kk.go f1).go f2, rel.ok.thenX ((rel.fr.trans f1).trans f2)⟩⟩
    | _ => exact q1.elim⟩
theorem ve_meth0 {pl : Sem Bool} (he : PE X o (lE Γ ta)) (c : Cls X.K C) (hm : Meth X.K C nm f) (F : FnOk X.prog X.w X.K X.mg X.base (L2.CX X.prog X.w) k f fd ps (lSp Γ.g m sp)) (hr : Room k X.A) (hb : Binds X.K fd ps ds) (hd : Vals dvs ds) (hdt : ∀ F, Reps Γ.g F dvs dts) (hx : Passes (L2.CX X.prog X.w) X Γ.E)
    (ht : eval (.Call (.Attribute o nm apos) [] [] pos) X.env = (do
      let ov ← eval o X.env
      standAt apos.atName
      let (f, first) ← holding [ov] (getMethod ov nm pl)
      callWith pos f first (backTo pos (starEach [] X.env)) (backToKw pos (keywordEach [] X.env))) := by rfl) :
    PE X (.Call (.Attribute o nm apos) [] [] pos) (lE Γ (vMeth C nm m Γ.x sp dts ta vNil)) :=
  PE.imp (pe_meth0 (pl := pl) he c hm F hr hb hd hx ht) fun σ H Q' ⟨ρ, n, F, Q, rel, h, kk⟩ => ⟨ρ, n, F, _, rel, h, fun v t n1 F1 H1 f1 s1 r1 q1 => by
    cases r1 with
    | ins e1 c1 r1 =>
      obtain ⟨rfl, l, q⟩ := q1
      exact ⟨_, _, _, rfl, s1.at_ e1, r1.lookup_none l, n1, F1, _, Q, Γ.x, q.1, s1, .cons (Rep.ins e1 c1 r1) ((Reps.nil).append (hdt F1)), q.2, kk.go f1, rel.ok.thenX (rel.fr.trans f1)⟩
    | _ => exact q1.elim⟩
theorem make_in {H : Hp} {Q' : VK} {n1 : Nat} {F1 : FH} {ts : List Tr} {vs : List V} {Q : VQ} (oc : OwnC Γ.g.K C) (ok : Γ.Ok) (fr : Fr Γ.F0 Γ.H0 F1 H) (s1 : Sub Γ.g n1 F1 H) (r1 : Reps Γ.g F1 vs ts) (hl : ts.length = m) (q : si ts n1 (fun fs n2 => Q (.ins C fs) n2) Γ.x) (kk : Then Γ.g F1 H Q Q') :
    ∀ x dx, H x = none → H dx = none → dx ≠ x → lIp Γ.g C m si (.ref x :: vs) (upd (upd H dx (.own x)) x (.ins C dx [])) (fun v H2 => v = .non ∧ Q' (.ref x) H2) Γ.E := by
  intro x dx nx nd ne
  refine ⟨H, x, dx, vs, n1, F1, ts, _, Γ.x, rfl, nx, nd, ne, rfl, oc, hl, s1, r1, q, fun fvs fts n' F' H' f' s' hx' fx rf q' => ⟨rfl, ?_⟩, ok.thenX fr⟩
  obtain ⟨l2, s2⟩ := freeze s' hx' fx
  exact kk _ _ n' _ H' (f'.frz (nt_none nx) fx) s2 (.ins updF_same oc (rf.mono l2)) q'
theorem ve_make (oc : OwnC Γ.g.K C) (M : Mk X.K C f) (F : FnOk X.prog X.w X.K X.mg X.base (L2.CX X.prog X.w) k f fd ps (lIp Γ.g C m si)) (hr : Room (k + 1) X.A) (hg : Gl X x) (hm : X.mg x = some (.ref C)) (hb : Binds X.K fd ps ds) (hd : Vals dvs ds) (hdt : ∀ F, Reps Γ.g F dvs dts) (hx : Passes (L2.CX X.prog X.w) X Γ.E) (ha : PA X (e :: es) (lA Γ tl))
    (hdb : (x == ("__debug__" : Str)) = false := by decide) (he : starEach (e :: es) X.env = (false, eval e X.env) :: starEach es X.env := by rfl) (hpl : (backTo pos (starEach es X.env)).any (·.1) = false := by rfl) : PE X (.Call (.Name x p) (e :: es) [] pos) (lE Γ (vMake C m Γ.x si dts tl)) :=
  PE.imp (pe_make M F hr hg hm hb hd hx ha hdb he hpl) fun σ H Q' ⟨ρ, n, F, Q, rel, h, kk⟩ => ⟨ρ, n, F, _, rel, h, fun vs ts n1 F1 H1 f1 s1 r1 q1 => make_in oc rel.ok (rel.fr.trans f1) s1 (r1.append (hdt F1)) q1.1 q1.2 (kk.go f1)⟩
/-! ### own operators -/
/-- x op y by the own method of x, both of the class C -/
def vBinII (C : Addr) (m : Nat) (x : XQ) (sp : VSp) : VR2
  | .ins C1 fs, .ins C2 gs, n, Q => C1 = C ∧ C2 = C ∧ sp [.ins C1 fs, .ins C2 gs] n Q x
  | _, _, _, _ => False
theorem lSp2 {F : FH} {H : Hp} {n : Nat} {tx ty : Tr} {vx vy : V} {Q : VQ} {Q' : VK} (ok : Γ.Ok) (fr : Fr Γ.F0 Γ.H0 F H) (s : Sub Γ.g n F H) (rx : Rep Γ.g F vx tx) (ry : Rep Γ.g F vy ty) (q : sp [tx, ty] n Q Γ.x) (kk : Then Γ.g F H Q Q') : lSp Γ.g 2 sp [vx, vy] H Q' Γ.E :=
  ⟨n, F, [tx, ty], Q, Γ.x, rfl, s, .cons rx (.cons ry .nil), q, kk, ok.thenX fr⟩
theorem ov_binII {op : Operator} (hm : Meth X.K C nm f) (hnm : PySem.dunder op.info.2 = nm) (hc : PySem.W.selfFirst X.K C = true) (F : FnOk X.prog X.w X.K X.mg X.base (L2.CX X.prog X.w) k f fd ps (lSp Γ.g 2 sp)) (hr : Room k X.A) (hb : Binds X.K fd ps []) (hx : Passes (L2.CX X.prog X.w) X Γ.E) :
    OpR X (binaryOp op) (lR Γ (vBinII C 2 Γ.x sp)) := OpR.imp (op_binII hm hnm hc F hr hb hx) fun x y H Q' ⟨n, F, tx, ty, Q, ok, fr, s, rx, ry, q, kk⟩ => by
  cases rx with
  | ins e1 c1 r1 => cases ry with
    | ins e2 c2 r2 =>
      obtain ⟨rfl, rfl, q⟩ := q
      exact ⟨_, _, _, _, _, _, rfl, rfl, s.at_ e1, s.at_ e2, lSp2 ok fr s (.ins e1 c1 r1) (.ins e2 c2 r2) q kk⟩
    | _ => exact q.elim
  | _ => exact q.elim
/-- x op n, n an int -/
def vBinIZ (C : Addr) (x : XQ) (sp : VSp) : VR2
  | .ins C1 fs, .int z, n, Q => C1 = C ∧ sp [.ins C1 fs, .int z] n Q x
  | _, _, _, _ => False
theorem ov_binIZ {op : Operator} (hm : Meth X.K C nm f) (hnm : PySem.dunder op.info.2 = nm) (hc : PySem.W.selfFirst X.K C = true) (hi : IntR X.K C op) (F : FnOk X.prog X.w X.K X.mg X.base (L2.CX X.prog X.w) k f fd ps (lSp Γ.g 2 sp)) (hr : Room k X.A) (hb : Binds X.K fd ps []) (hx : Passes (L2.CX X.prog X.w) X Γ.E) :
    OpR X (binaryOp op) (lR Γ (vBinIZ C Γ.x sp)) := OpR.imp (op_binIZ hm hnm hc hi F hr hb hx) fun x y H Q' ⟨n, F, tx, ty, Q, ok, fr, s, rx, ry, q, kk⟩ => by
  cases rx with
  | ins e1 c1 r1 => cases ry with
    | int z =>
      obtain ⟨rfl, q⟩ := q
      exact ⟨_, _, _, _, rfl, rfl, s.at_ e1, lSp2 ok fr s (.ins e1 c1 r1) (.int z) q kk⟩
    | _ => exact q.elim
  | _ => exact q.elim
/-- -x by the own __neg__ -/
def vNegOwn (C : Addr) (x : XQ) (sp : VSp) : VR1
  | .ins C1 fs, n, Q => C1 = C ∧ sp [.ins C1 fs] n Q x
  | _, _, _ => False
theorem un_negOwn (hm : Meth X.K C "__neg__" f) (F : FnOk X.prog X.w X.K X.mg X.base (L2.CX X.prog X.w) k f fd ps (lSp Γ.g 1 sp)) (hr : Room k X.A) (hb : Binds X.K fd ps []) (hx : Passes (L2.CX X.prog X.w) X Γ.E) :
    UnR X (unaryOp .USub) (lU Γ (vNegOwn C Γ.x sp)) := UnR.imp (DS.un_negOwn hm F hr hb hx) fun x H Q' ⟨n, F, tx, Q, ok, fr, s, rx, q, kk⟩ => by
  cases rx with
  | ins e1 c1 r1 =>
    obtain ⟨rfl, q⟩ := q
    exact ⟨_, _, _, rfl, s.at_ e1, n, F, [_], Q, Γ.x, rfl, s, .cons (.ins e1 c1 r1) .nil, q, kk, ok.thenX fr⟩
  | _ => exact q.elim
/-- x == y, x != y by the own __eq__ -/
def vEqII (neg : Bool) (C : Addr) (x : XQ) (sp : VSp) : VR2
  | .ins C1 fs, .ins C2 gs, n, Q => C1 = C ∧ C2 = C ∧ sp [.ins C1 fs, .ins C2 gs] n (fun t n1 => vbl t n1 fun b n2 => Q (.bl (if neg then !b else b)) n2) x
  | _, _, _, _ => False
theorem Then.bl {F : FH} {H : Hp} {Q : VQ} {Q' : VK} {neg : Bool} (kk : Then Γ.g F H Q Q') : Then Γ.g F H (fun t n1 => vbl t n1 fun b n2 => Q (.bl (if neg then !b else b)) n2) (fun v H' => ∃ b, v = .bl b ∧ Q' (.bl (if neg then !b else b)) H') := fun v t n' F' H' f' s' r' q' => by
  obtain ⟨b, rfl, q⟩ := vbl_rep r' q'
  exact ⟨b, rfl, kk _ _ n' F' H' f' s' (.bl _) q⟩
theorem ov_eqII (hm : Meth X.K C "__eq__" f) (F : FnOk X.prog X.w X.K X.mg X.base (L2.CX X.prog X.w) k f fd ps (lSp Γ.g 2 sp)) (hr : Room k X.A) (hb : Binds X.K fd ps []) (hx : Passes (L2.CX X.prog X.w) X Γ.E) :
    OpR X (compareOp .Eq) (lR Γ (vEqII false C Γ.x sp)) := OpR.imp (op_eqII hm F hr hb hx) fun x y H Q' ⟨n, F, tx, ty, Q, ok, fr, s, rx, ry, q, kk⟩ => by
  cases rx with
  | ins e1 c1 r1 => cases ry with
    | ins e2 c2 r2 =>
      obtain ⟨rfl, rfl, q⟩ := q
      exact ⟨_, _, _, _, _, _, rfl, rfl, s.at_ e1, s.at_ e2, lSp2 ok fr s (.ins e1 c1 r1) (.ins e2 c2 r2) q (Then.bl (neg := false) kk)⟩
    | _ => exact q.elim
  | _ => exact q.elim
theorem ov_neII (hm : Meth X.K C "__eq__" f) (hne : PySem.W.findIn X.K (.ref C) "__ne__" = some (some (.builtin "object.__ne__"))) (hmo : PySem.W.mroIn X.K C (.type "object") = some true) (F : FnOk X.prog X.w X.K X.mg X.base (L2.CX X.prog X.w) k f fd ps (lSp Γ.g 2 sp)) (hr : Room (k + 1) X.A) (hb : Binds X.K fd ps []) (hx : Passes (L2.CX X.prog X.w) X Γ.E) :
    OpR X (compareOp .NotEq) (lR Γ (vEqII true C Γ.x sp)) := OpR.imp (op_neII hm hne hmo F hr hb hx) fun x y H Q' ⟨n, F, tx, ty, Q, ok, fr, s, rx, ry, q, kk⟩ => by
  cases rx with
  | ins e1 c1 r1 => cases ry with
    | ins e2 c2 r2 =>
      obtain ⟨rfl, rfl, q⟩ := q
      exact ⟨_, _, _, _, _, _, rfl, rfl, s.at_ e1, s.at_ e2, lSp2 ok fr s (.ins e1 c1 r1) (.ins e2 c2 r2) q (Then.bl (neg := true) kk)⟩
    | _ => exact q.elim
  | _ => exact q.elim
end
/-! ### no exception -/
def Cn.nox (Γ : Cn) : Cn := ⟨Γ.g, Γ.F0, Γ.H0, fun _ _ _ => False, fun _ _ _ => False⟩
theorem Rel.nox {Γ : Cn} {n : Nat} {ρ : List Sl} {F : FH} {σ : L2.St} {H : Hp} (r : Rel Γ n ρ F σ H) : Rel Γ.nox n ρ F σ H := ⟨⟨fun _ _ _ _ _ _ _ _ _ _ _ h => h⟩, r.fr, r.sub, r.len, r.sl, r.dis⟩
theorem Rel.unnox {Γ : Cn} {n : Nat} {ρ : List Sl} {F : FH} {σ : L2.St} {H : Hp} (ok : Γ.Ok) (r : Rel Γ.nox n ρ F σ H) : Rel Γ n ρ F σ H := ⟨ok, r.fr, r.sub, r.len, r.sl, r.dis⟩
theorem passes_no {X : Cx} {P : Program} {w : World} : Passes (L2.CX P w) X (fun _ _ _ => False) := fun pins σ H s e s' I h => by
  obtain ⟨_, _, _, _, _, _, _, _, _, _, _, _, z⟩ := h
  exact z.elim
/-! ### a def by its body -/
def startT (N : List Str) (ts : List Tr) : List Sl := ts.map Sl.v ++ List.replicate (N.length - ts.length) .un
theorem start_rel {Γ : Cn} {N : List Str} {n : Nat} {F : FH} {H : Hp} {vs : List V} {ts : List Tr} (ok : Γ.Ok) (fr : Fr Γ.F0 Γ.H0 F H) (s : Sub Γ.g n F H) (r : Reps Γ.g F vs ts) : Rel Γ n (startT N ts) F (L2.start N vs) H := by
  have hl := r.length
  have own : ∀ (i : Nat) u, (startT N ts)[i]? = some u → isOwn u = false := fun i u e => by
    unfold startT at e
    by_cases h : i < ts.length
    · rw [List.getElem?_append_left (by simpa using h), List.getElem?_map] at e
      cases q : ts[i]? with
      | none => rw [q] at e; cases e
      | some t => rw [q] at e; cases e; rfl
    · rw [List.getElem?_append_right (by simpa using h), List.getElem?_replicate] at e
      split at e
      · cases e; rfl
      · cases e
  refine ⟨ok, fr, s, by unfold startT L2.start; simp [hl], fun i u e => ?_, fun i j a u w _ e1 _ o1 => by rw [own i u e1] at o1; cases o1⟩
  unfold startT at e
  unfold L2.start
  by_cases h : i < ts.length
  · rw [List.getElem?_append_left (by simpa using h), List.getElem?_map] at e
    cases q : ts[i]? with
    | none => rw [q] at e; cases e
    | some t =>
      rw [q] at e
      cases e
      obtain ⟨v, h1, h2⟩ := r.get i q
      refine ⟨some v, ?_, v, rfl, h2⟩
      rw [List.getElem?_append_left (by simpa [hl] using h), List.getElem?_map, h1]
      rfl
  · rw [List.getElem?_append_right (by simpa using h), List.getElem?_replicate] at e
    split at e
    · rename_i h2
      cases e
      refine ⟨none, ?_, trivial⟩
      rw [List.getElem?_append_right (by simpa [hl] using h), List.getElem?_replicate, if_pos (by simpa [hl] using h2)]
    · cases e
/-- fn_of's shape: any way to a def by its body (Fun.ok, FunD.ok) -/
def ByBody (P : Program) (w : World) (K : PySem.W.Frag) (mg : Str → Option Value) (base : Heap) (f : Addr) (fd : FuncData) (ps N : List Str) (qual : Str) (scope : Scope) (body : List Stmt) (k : Nat) : Prop :=
  ∀ sp : Sp, (∀ vs H Q E, sp vs H Q E → vs.length = ps.length) → (∀ (cdv : Value) (A : Around) (outer : List Env) (s : Shared) (H : Hp) (vs : List V) (Q : VK) (E : XK), Room k (A.deeper (envOfC qual scope s.heap.objs.size f cdv)) → sp vs H Q E →
    ∃ t, PSs (cxOf (L2.CX P w) P w K mg base N qual scope f cdv A outer s H E) body t ∧ t { nx := fun _ H' => Q .non H', rt := Q } (L2.start N vs) H) → FnOk P w K mg base (L2.CX P w) (k + 1) f fd ps sp
section
variable {P : Program} {w : World} {K : PySem.W.Frag} {mg : Str → Option Value} {base : Heap} {f : Addr} {fd : FuncData} {ps N : List Str} {qual : Str} {scope : Scope} {body : List Stmt} {k m : Nat}
theorem hx_of {cdv : Value} {A : Around} {outer : List Env} {s : Shared} {H : Hp} {E : XK} : Passes (L2.CX P w) (cxOf (L2.CX P w) P w K mg base N qual scope f cdv A outer s H E) E := passes_call (takes_of rfl rfl rfl rfl) (fun _ _ _ _ h => h)
theorem own_of {cdv : Value} {A : Around} {outer : List Env} {s : Shared} {H : Hp} {E : XK} : PassesOwn (model P w) (cxOf (L2.CX P w) P w K mg base N qual scope f cdv A outer s H E).A (cxOf (L2.CX P w) P w K mg base N qual scope f cdv A outer s H E).env (cxOf (L2.CX P w) P w K mg base N qual scope f cdv A outer s H E).xe := passes_of rfl
def ends (Q : VQ) : VEnds := { nx := fun n _ => Q .non n, rt := Q }
theorem ok_v {g : Gb} {sp : VSp} (F : ByBody P w K mg base f fd ps N qual scope body k) (hm : ps.length = m)
    (hb : ∀ (cdv : Value) (A : Around) (outer : List Env) (s : Shared) (H : Hp) (E : XK) (F0 : FH) (x : XQ), Room k (A.deeper (envOfC qual scope s.heap.objs.size f cdv)) →
      ∃ τ, PSs (cxOf (L2.CX P w) P w K mg base N qual scope f cdv A outer s H E) body (lS ⟨g, F0, H, E, x⟩ τ) ∧ ∀ ts n Q, ts.length = m → sp ts n Q x → τ (ends Q) n (startT N ts)) : FnOk P w K mg base (L2.CX P w) (k + 1) f fd ps (lSp g m sp) := by
  refine F _ (fun vs H Q E h => by rw [hm]; exact h.len) (fun cdv A outer s H vs Q' E hr h => ?_)
  obtain ⟨n, F0, ts, Q, x, hl, sb, r, q, kk, kx⟩ := h
  obtain ⟨τ, h1, h2⟩ := hb cdv A outer s H E F0 x hr
  refine ⟨_, h1, startT N ts, n, F0, ends Q, start_rel ⟨fun C d fvs fts n F H f' s' xa rf hx => kx C d fvs fts n F H f' s' xa rf hx⟩ (Fr.refl _ _) sb r, h2 ts n Q hl q, ⟨fun ρ' n' F' σ' H' _ rel q' => ?_, fun _ _ _ _ _ _ _ q' => q'.elim, fun _ _ _ _ _ _ _ q' => q'.elim, fun v t n' F' H' f' s' r' q' => kk v t n' F' H' f' s' r' q'⟩⟩
  exact kk .non .non n' F' H' rel.fr rel.sub .non q'
def oiQ (C x dx : Addr) (Q : List (Str × Tr) → Nat → Prop) : Sl → Nat → Prop
  | .oi C' a d fs, n => C' = C ∧ a = x ∧ d = dx ∧ Q fs n
  | _, _ => False
def endsI (C x dx : Addr) (Q : List (Str × Tr) → Nat → Prop) : VEnds := { nx := fun n ρ => oiQ C x dx Q (gt ρ 0) n, rt := fun _ _ => False }
def startI (C x dx : Addr) (N : List Str) (ts : List Tr) : List Sl := .oi C x dx [] :: startT (N.drop 1) ts
theorem ok_vi {g : Gb} {C : Addr} {si : VIp} (F : ByBody P w K mg base f fd ps N qual scope body k) (hm : ps.length = m + 1) (hN : 0 < N.length)
    (hb : ∀ (cdv : Value) (A : Around) (outer : List Env) (s : Shared) (H0 H : Hp) (E : XK) (F0 : FH) (x : XQ), Room k (A.deeper (envOfC qual scope s.heap.objs.size f cdv)) →
      ∃ τ, PSs (cxOf (L2.CX P w) P w K mg base N qual scope f cdv A outer s H E) body (lS ⟨g, F0, H0, E, x⟩ τ) ∧ ∀ ts n Q y dy, ts.length = m → si ts n Q x → τ (endsI C y dy Q) n (startI C y dy N ts)) : FnOk P w K mg base (L2.CX P w) (k + 1) f fd ps (lIp g C m si) := by
  refine F _ (fun vs H Q E h => by rw [hm]; exact h.len) (fun cdv A outer s H vs Q' E hr h => ?_)
  obtain ⟨H0, x, dx, ws, n, F0, ts, Q, xq, e1, nx, nd, ne, e2, oc, hl, sb, r, q, kk, kx⟩ := h
  subst e1
  obtain ⟨τ, h1, h2⟩ := hb cdv A outer s H0 H E F0 xq hr
  obtain ⟨f1, s1⟩ := alloc0 (o := .own x) sb nd
  have nx1 : upd H0 dx (.own x) x = none := by rw [upd_ne (Ne.symm ne)]; exact nx
  obtain ⟨f2, s2⟩ := alloc0 (o := .ins C dx []) s1 nx1
  have ok : Cn.Ok ⟨g, F0, H0, E, xq⟩ := ⟨fun C d fvs fts n F H f' s' xa rf hx => kx C d fvs fts n F H f' s' xa rf hx⟩
  have base := start_rel (Γ := ⟨g, F0, H0, E, xq⟩) (N := N.drop 1) ok (f1.trans f2) s2 r
  rw [← e2] at base
  have hNe : L2.start N (.ref x :: ws) = some (.ref x) :: L2.start (N.drop 1) ws := by
    unfold L2.start
    cases N with
    | nil => cases hN
    | cons y N => simp
  refine ⟨_, h1, startI C x dx N ts, n, F0, endsI C x dx Q, ⟨ok, base.fr, base.sub, ?_, fun i u e => ?_, fun i j a u w hij eu ew ou ow su sw => ?_⟩, h2 ts n Q x dx hl q, ⟨fun ρ' n' F' σ' H' _ rel q' => ?_, fun _ _ _ _ _ _ _ q' => q'.elim, fun _ _ _ _ _ _ _ q' => q'.elim, fun _ _ _ _ _ _ _ _ q' => q'.elim⟩⟩
  · rw [hNe]
    show (startT (N.drop 1) ts).length + 1 = (L2.start (N.drop 1) ws).length + 1
    rw [base.len]
  · rw [hNe]
    cases i with
    | zero =>
      cases e
      exact ⟨_, rfl, [], rfl, by rw [e2]; exact upd_same, sb.free nx, nt_none nx, oc, .nil⟩
    | succ i => exact base.sl i u e
  · have no : ∀ (i : Nat) u, (startI C x dx N ts)[i]? = some u → isOwn u = true → i = 0 := fun i u eu ou => by
      cases i with
      | zero => rfl
      | succ i =>
        exfalso
        have e : (startT (N.drop 1) ts)[i]? = some u := eu
        unfold startT at e
        by_cases h : i < ts.length
        · rw [List.getElem?_append_left (by simpa using h), List.getElem?_map] at e
          cases q : ts[i]? with
          | none => rw [q] at e; cases e
          | some t => rw [q] at e; cases e; cases ou
        · rw [List.getElem?_append_right (by simpa using h), List.getElem?_replicate] at e
          split at e
          · cases e; cases ou
          · cases e
    exact hij ((no i u eu ou).trans (no j w ew ow).symm)
  · show Q' .non H'
    have q2 : oiQ C x dx Q (gt ρ' 0) n' := q'
    cases eg : gt ρ' 0 with
    | oi C' a d fs =>
      rw [eg] at q2
      obtain ⟨rfl, rfl, rfl, q3⟩ := q2
      obtain ⟨o, h1, fvs, h2, h3, h4, h5, c, rf⟩ := rel.sl 0 _ (gt_get eg (fun z => nomatch z))
      exact kk fvs fs n' F' H' rel.fr rel.sub h3 h4 rf q3
    | _ => rw [eg] at q2; exact q2.elim
end
end VL
/-! statements, loops and comprehensions at trees -/
namespace VL
open PySem L2 DS PyProof.Rows
theorem tabs_l {T : List (Addr × Str)} {H : Hp} {l : Addr} {o u : HO} (e : H l = some o) (no : (∀ ps, o ≠ .tbl ps) ∧ (∀ φ, o ≠ .ext φ)) (t : LamX.Tabs T H) : LamX.Tabs T (upd H l u) := fun p hp => by
  obtain ⟨ps, h1, h2, h3⟩ := t p hp
  refine ⟨ps, by rw [upd_ne (ne_of h1 e (by intro z; exact no.1 ps z.symm))]; exact h1, h2, fun pos cv hc => ?_⟩
  obtain ⟨c, e1, e2⟩ := h3 pos cv hc
  exact ⟨c, e1, by rw [upd_ne (ne_of e2 e (by intro z; exact no.2 _ z.symm))]; exact e2⟩
def plainO (o : HO) : Prop := (∀ ps, o ≠ .tbl ps) ∧ (∀ φ, o ≠ .ext φ) ∧ ∀ kvs, o ≠ .dK kvs
theorem plain_lst (xs : List V) : plainO (.lst xs) := ⟨(fun _ z => nomatch z), (fun _ z => nomatch z), (fun _ z => nomatch z)⟩
theorem plain_ins (C dx : Addr) (xs : List (Str × V)) : plainO (.ins C dx xs) := ⟨(fun _ z => nomatch z), (fun _ z => nomatch z), (fun _ z => nomatch z)⟩
theorem Sub.upd {g : Gb} {n : Nat} {F : FH} {H : Hp} {p : Addr} {o u : HO} (s : Sub g n F H) (e : H p = some o) (po : plainO o) (f : F p = none) : Sub g n F (upd H p u) := by
  refine ⟨fun a w h => ?_, fun a h => ?_, tabs_l e ⟨po.1, po.2.1⟩ s.tab, s.nt⟩
  · have h' := hp_eq.mp h
    have q : a ≠ p := fun z => by rw [z, f] at h'; cases h'
    rw [upd_ne q]
    exact s.at_ h'
  · obtain ⟨c, ns, k, l, h1, h2, h3⟩ := (s.pen a h).ex
    refine ⟨c, ns, k, l, ?_, h2, h3⟩
    rw [upd_ne (ne_of h1 e (by intro z; exact po.2.2 _ z.symm))]
    exact h1
theorem Fr.updN {F F' : FH} {H H' : Hp} {p : Addr} {o : HO} (f : Fr F H F' H') (e : nt H p = none) : Fr F H F' (upd H' p o) := by
  refine ⟨f.le, f.fresh, fun a w h np no => ?_, fun a h => ?_⟩
  · have ne : a ≠ p := fun z => by rw [z] at h; rw [nt_some h no] at e; cases e
    rw [upd_ne ne]
    exact f.keep a w h np no
  · by_cases q : a = p
    · rw [q, e] at h; exact absurd rfl h
    · rw [nt_upd q]; exact f.there a h
theorem RelSl.upd {g : Gb} {H0 : Hp} {F : FH} {H : Hp} {p : Addr} {o : HO} : ∀ {s : Sl} {x : Option V}, (isOwn s = true → x ≠ some (.ref p)) → RelSl g H0 F H s x → RelSl g H0 F (upd H p o) s x := by
  intro s x n h
  cases s with
  | un => trivial
  | v t => exact h
  | ol xs =>
    obtain ⟨a, vs, e, h1, h2⟩ := h
    refine ⟨a, vs, e, ?_, h2⟩
    rw [upd_ne (fun z => n rfl (by rw [e, z]))]
    exact h1
  | oi C a dx fs =>
    obtain ⟨fvs, e, h1, h2⟩ := h
    refine ⟨fvs, e, ?_, h2⟩
    rw [upd_ne (fun z => n rfl (by rw [e, z]))]
    exact h1
  | od kvs =>
    obtain ⟨a, vs, e, h1, h2⟩ := h
    refine ⟨a, vs, e, ?_, h2⟩
    rw [upd_ne (fun z => n rfl (by rw [e, z]))]
    exact h1
/-- an object of no slot is changed -/
theorem Rel.updD {Γ : Cn} {n : Nat} {ρ : List Sl} {F : FH} {σ : L2.St} {H : Hp} (r : Rel Γ n ρ F σ H) {D : Addr} {o u : HO} (e : H D = some o) (po : plainO o) (f : F D = none) (h0 : nt Γ.H0 D = none) (no : ∀ (j : Nat) s, ρ[j]? = some s → isOwn s = true → σ[j]? ≠ some (some (.ref D))) : Rel Γ n ρ F σ (upd H D u) :=
  ⟨r.ok, r.fr.updN h0, r.sub.upd e po f, r.len, fun i s es => by
    obtain ⟨x, h1, h2⟩ := r.sl i s es
    exact ⟨x, h1, h2.upd fun ow z => no i s es ow (by rw [h1, z])⟩, r.dis⟩
/-- the owned object of a slot is changed -/
theorem Rel.updO {Γ : Cn} {n : Nat} {ρ : List Sl} {F : FH} {σ : L2.St} {H : Hp} (r : Rel Γ n ρ F σ H) {i : Nat} {s0 s1 : Sl} {a : Addr} {o u : HO} (ei : ρ[i]? = some s0) (ow : isOwn s0 = true) (ow1 : isOwn s1 = true) (es : σ[i]? = some (some (.ref a))) (e : H a = some o) (po : plainO o) (f : F a = none) (h0 : nt Γ.H0 a = none) (h1 : RelSl Γ.g Γ.H0 F (L2.upd H a u) s1 (some (.ref a))) : Rel Γ n (ρ.set i s1) F σ (L2.upd H a u) := by
  have get : ∀ (j : Nat) s, (ρ.set i s1)[j]? = some s → (j = i ∧ s = s1) ∨ (j ≠ i ∧ ρ[j]? = some s) := fun j s e => by
    by_cases q : j = i
    · subst q
      rw [List.getElem?_set] at e
      rw [if_pos rfl] at e
      split at e
      · cases e; exact .inl ⟨rfl, rfl⟩
      · cases e
    · rw [List.getElem?_set_ne (Ne.symm q)] at e
      exact .inr ⟨q, e⟩
  refine ⟨r.ok, r.fr.updN h0, r.sub.upd e po f, by rw [List.length_set]; exact r.len, fun j s ej => ?_, fun j k b s w ne ej ek oj ok sj sk => ?_⟩
  · rcases get j s ej with ⟨rfl, rfl⟩ | ⟨q, ej⟩
    · exact ⟨_, es, h1⟩
    · obtain ⟨x, h2, h3⟩ := r.sl j s ej
      exact ⟨x, h2, h3.upd fun oj z => r.dis j i a s s0 q ej ei oj ow (by rw [h2, z]) es⟩
  · rcases get j s ej with ⟨rfl, rfl⟩ | ⟨q, ej'⟩
    · rcases get k w ek with ⟨rfl, rfl⟩ | ⟨q2, ek'⟩
      · exact ne rfl
      · exact r.dis j k b s0 w ne ei ek' ow ok sj sk
    · rcases get k w ek with ⟨rfl, rfl⟩ | ⟨q2, ek'⟩
      · exact r.dis j k b s s0 ne ej' ei oj ow sj sk
      · exact r.dis j k b s w ne ej' ek' oj ok sj sk
/-- a slot gets a new owned object -/
theorem Rel.setO {Γ : Cn} {n : Nat} {ρ : List Sl} {F : FH} {σ : L2.St} {H : Hp} (r : Rel Γ n ρ F σ H) {i : Nat} {s1 : Sl} {p : Addr} {o : HO} (e : H p = none) (h1 : F p = none → nt Γ.H0 p = none → RelSl Γ.g Γ.H0 F (L2.upd H p o) s1 (some (.ref p))) : Rel Γ n (ρ.set i s1) F (σ.set i (some (.ref p))) (L2.upd H p o) := by
  obtain ⟨f2, s2⟩ := alloc0 (o := o) r.sub e
  have r2 := r.go f2 s2
  have fp := r.sub.free e
  have h0 : nt Γ.H0 p = none := by
    cases q : nt Γ.H0 p with
    | none => rfl
    | some w => exact absurd (nt_none e) (r.fr.there p (by rw [q]; intro z; cases z))
  have get : ∀ (j : Nat) s, (ρ.set i s1)[j]? = some s → (j = i ∧ s = s1 ∧ (σ.set i (some (.ref p)))[j]? = some (some (.ref p))) ∨ (j ≠ i ∧ ρ[j]? = some s ∧ (σ.set i (some (.ref p)))[j]? = σ[j]?) := fun j s e => by
    by_cases q : j = i
    · subst q
      rw [List.getElem?_set, if_pos rfl] at e
      split at e
      · rename_i hl
        cases e
        refine .inl ⟨rfl, rfl, ?_⟩
        rw [List.getElem?_set, if_pos rfl, if_pos (by rw [← r.len]; exact hl)]
      · cases e
    · rw [List.getElem?_set_ne (Ne.symm q)] at e
      exact .inr ⟨q, e, List.getElem?_set_ne (Ne.symm q)⟩
  have away : ∀ (j : Nat) s, ρ[j]? = some s → isOwn s = true → σ[j]? ≠ some (some (.ref p)) := fun j s ej oj z => by
    obtain ⟨x, h2, h3⟩ := r.sl j s ej
    rw [z] at h2
    cases h2
    have : ∃ u, H p = some u := by
      cases s with
      | un => cases oj
      | v t => cases oj
      | ol xs => obtain ⟨a, vs, e', h, _⟩ := h3; cases e'; exact ⟨_, h⟩
      | oi C a dx fs => obtain ⟨fvs, e', h, _⟩ := h3; cases e'; exact ⟨_, h⟩
      | od kvs => obtain ⟨a, vs, e', h, _⟩ := h3; cases e'; exact ⟨_, h⟩
    obtain ⟨u, hu⟩ := this
    rw [hu] at e
    cases e
  refine ⟨r.ok, r2.fr, r2.sub, by simp [r.len], fun j s ej => ?_, fun j k b s w ne ej ek oj ok sj sk => ?_⟩
  · rcases get j s ej with ⟨rfl, rfl, g3⟩ | ⟨q, ej', g3⟩
    · exact ⟨_, g3, h1 fp h0⟩
    · rw [g3]; exact r2.sl j s ej'
  · rcases get j s ej with ⟨rfl, rfl, g3⟩ | ⟨q, ej', g3⟩
    · rcases get k w ek with ⟨rfl, rfl, g4⟩ | ⟨q2, ek', g4⟩
      · exact ne rfl
      · rw [g3] at sj; cases sj
        rw [g4] at sk
        exact away k w ek' ok sk
    · rcases get k w ek with ⟨rfl, rfl, g4⟩ | ⟨q2, ek', g4⟩
      · rw [g4] at sk; cases sk
        rw [g3] at sj
        exact away j s ej' oj sj
      · rw [g3] at sj; rw [g4] at sk
        exact r.dis j k b s w ne ej' ek' oj ok sj sk
/-- a slot's owned list is frozen -/
def frzS : Sl → Sl
  | .ol xs => .v (.lst xs)
  | .od kvs => .v (.dct kvs)
  | s => s
def frz (i : Nat) (ρ : List Sl) : List Sl := ρ.set i (frzS (gt ρ i))
theorem Rel.frz {Γ : Cn} {n : Nat} {ρ : List Sl} {F : FH} {σ : L2.St} {H : Hp} (r : Rel Γ n ρ F σ H) (i : Nat) : ∃ F', le F F' ∧ Rel Γ n (VL.frz i ρ) F' σ H := by
  have key : ∀ {a : Addr} {o : HO} {t : Tr} {s0 : Sl}, ρ[i]? = some s0 → isOwn s0 = true → σ[i]? = some (some (.ref a)) → H a = some o → (∀ ps, o ≠ .tbl ps) → F a = none → nt Γ.H0 a = none → (∀ F', le F F' → F' a = some (.ob o) → Rep Γ.g F' (.ref a) t) → ∃ F', le F F' ∧ Rel Γ n (ρ.set i (.v t)) F' σ H := fun {a o t s0} ei ow es e no f h0 rp => by
    obtain ⟨l, s2⟩ := freeze r.sub e f no
    refine ⟨_, l, ?_⟩
    have hσ : σ.set i (some (.ref a)) = σ := by
      refine List.ext_getElem? fun j => ?_
      by_cases q : j = i
      · subst q
        rw [List.getElem?_set, if_pos rfl, es]
        split
        · rfl
        · rename_i hl
          rw [List.getElem?_eq_none (by omega)] at es
          cases es
      · rw [List.getElem?_set_ne (Ne.symm q)]
    have base : Rel Γ n (ρ.set i .un) (updF F a (.ob o)) σ H := by
      refine ⟨r.ok, r.fr.frz h0 f, s2, by simp [r.len], fun j s ej => ?_, fun j k b s w ne ej ek oj ok sj sk => ?_⟩
      · by_cases q : j = i
        · subst q
          rw [List.getElem?_set, if_pos rfl] at ej
          split at ej
          · cases ej; exact ⟨_, es, trivial⟩
          · cases ej
        · rw [List.getElem?_set_ne (Ne.symm q)] at ej
          obtain ⟨x, h2, h3⟩ := r.sl j s ej
          refine ⟨x, h2, ?_⟩
          have na : isOwn s = true → x ≠ some (.ref a) := fun oj z => r.dis j i a s s0 q ej ei oj ow (by rw [h2, z]) es
          cases s with
          | un => trivial
          | v t => obtain ⟨v, e', h⟩ := h3; exact ⟨v, e', h.mono l⟩
          | ol xs =>
            obtain ⟨c, vs, e', g1, g2, g3, g4⟩ := h3
            exact ⟨c, vs, e', g1, by rw [updF_ne (fun z => na rfl (by rw [e', z]))]; exact g2, g3, g4.mono l⟩
          | oi C c dx fs =>
            obtain ⟨fvs, e', g1, g2, g3, g4, g5⟩ := h3
            exact ⟨fvs, e', g1, by rw [updF_ne (fun z => na rfl (by rw [e', z]))]; exact g2, g3, g4, g5.mono l⟩
          | od kvs =>
            obtain ⟨c, vs, e', g1, g2, g3, g4⟩ := h3
            exact ⟨c, vs, e', g1, by rw [updF_ne (fun z => na rfl (by rw [e', z]))]; exact g2, g3, g4.mono l⟩
      · have nj : j ≠ i := fun z => by
          subst z
          rw [List.getElem?_set, if_pos rfl] at ej
          split at ej
          · cases ej; cases oj
          · cases ej
        have nk : k ≠ i := fun z => by
          subst z
          rw [List.getElem?_set, if_pos rfl] at ek
          split at ek
          · cases ek; cases ok
          · cases ek
        rw [List.getElem?_set_ne (Ne.symm nj)] at ej
        rw [List.getElem?_set_ne (Ne.symm nk)] at ek
        exact r.dis j k b s w ne ej ek oj ok sj sk
    have := base.set (i := i) (rp _ l updF_same)
    rw [hσ, List.set_set] at this
    exact this
  cases eg : gt ρ i with
  | ol xs =>
    have ei := gt_get eg (fun z => nomatch z)
    obtain ⟨x, h1, a, vs, e, g1, g2, g3, g4⟩ := r.sl i _ ei
    subst e
    have := key ei rfl h1 g1 (fun _ z => nomatch z) g2 g3 (t := .lst xs) (fun F' l h => .lst h (g4.mono l))
    unfold VL.frz
    rw [eg]
    exact this
  | od kvs =>
    have ei := gt_get eg (fun z => nomatch z)
    obtain ⟨x, h1, a, vs, e, g1, g2, g3, g4⟩ := r.sl i _ ei
    subst e
    have := key ei rfl h1 g1 (fun _ z => nomatch z) g2 g3 (t := .dct kvs) (fun F' l h => .dct h (g4.mono l))
    unfold VL.frz
    rw [eg]
    exact this
  | un =>
    refine ⟨F, le.refl _, ?_⟩
    unfold VL.frz
    rw [eg]
    show Rel Γ n (ρ.set i .un) F σ H
    refine ⟨r.ok, r.fr, r.sub, by simp [r.len], fun j s ej => ?_, fun j k b s w ne ej ek oj ok sj sk => ?_⟩
    · by_cases q : j = i
      · subst q
        rw [List.getElem?_set, if_pos rfl] at ej
        split at ej
        · rename_i hl
          cases ej
          rw [r.len] at hl
          exact ⟨σ[j], List.getElem?_eq_getElem hl, trivial⟩
        · cases ej
      · rw [List.getElem?_set_ne (Ne.symm q)] at ej
        exact r.sl j s ej
    · have nj : j ≠ i := fun z => by
        subst z
        rw [List.getElem?_set, if_pos rfl] at ej
        split at ej
        · cases ej; cases oj
        · cases ej
      have nk : k ≠ i := fun z => by
        subst z
        rw [List.getElem?_set, if_pos rfl] at ek
        split at ek
        · cases ek; cases ok
        · cases ek
      rw [List.getElem?_set_ne (Ne.symm nj)] at ej
      rw [List.getElem?_set_ne (Ne.symm nk)] at ek
      exact r.dis j k b s w ne ej ek oj ok sj sk
  | v t =>
    have ei := gt_get eg (fun z => nomatch z)
    refine ⟨F, le.refl _, ?_⟩
    unfold VL.frz
    rw [eg]
    show Rel Γ n (ρ.set i (.v t)) F σ H
    rw [show ρ.set i (.v t) = ρ from List.ext_getElem? fun j => by
      by_cases q : j = i
      · subst q
        rw [List.getElem?_set, if_pos rfl, ei]
        split
        · rfl
        · rename_i hl; rw [List.getElem?_eq_none (by omega)] at ei; cases ei
      · rw [List.getElem?_set_ne (Ne.symm q)]]
    exact r
  | oi C a dx fs =>
    have ei := gt_get eg (fun z => nomatch z)
    refine ⟨F, le.refl _, ?_⟩
    unfold VL.frz
    rw [eg]
    show Rel Γ n (ρ.set i (.oi C a dx fs)) F σ H
    rw [show ρ.set i (.oi C a dx fs) = ρ from List.ext_getElem? fun j => by
      by_cases q : j = i
      · subst q
        rw [List.getElem?_set, if_pos rfl, ei]
        split
        · rfl
        · rename_i hl; rw [List.getElem?_eq_none (by omega)] at ei; cases ei
      · rw [List.getElem?_set_ne (Ne.symm q)]]
    exact r
end VL
/-! statements, loops and comprehensions at trees: the rules -/
namespace VL
open PySem L2 DS PyProof.Rows
theorem EndsOk.le {Γ : Cn} {F F' : FH} {D : VEnds} {D' : Ends} (o : EndsOk Γ F D D') (l : VL.le F F') : EndsOk Γ F' D D' :=
  ⟨fun ρ n F2 σ H l2 r q => o.nx ρ n F2 σ H (l.trans l2) r q, fun ρ n F2 σ H l2 r q => o.bk ρ n F2 σ H (l.trans l2) r q, fun ρ n F2 σ H l2 r q => o.ct ρ n F2 σ H (l.trans l2) r q, o.rt⟩
def vNext : RS := fun D n ρ => D.nx n ρ
def vSeq (t u : RS) : RS := fun D n ρ => t { D with nx := u D } n ρ
def vBreak : RS := fun D n ρ => D.bk n ρ
def vCont : RS := fun D n ρ => D.ct n ρ
def vDrop (e : RE) : RS := fun D n ρ => e n ρ fun _ n1 => D.nx n1 ρ
def vRet (e : RE) : RS := fun D n ρ => e n ρ D.rt
def vRetN : RS := fun D n _ => D.rt .non n
def brS (b : Bool) (t u : RS) (D : VEnds) (n : Nat) (ρ : List Sl) : Prop := if b = true then t D n ρ else u D n ρ
def vIfS (c : RT) (t u : RS) : RS := fun D n ρ => c n ρ fun b n1 => brS b t u D n1 ρ
def vSet (i : Nat) (e : RE) : RS := fun D n ρ => e n ρ fun t n1 => D.nx n1 (ρ.set i (.v t))
def vFrz (i : Nat) (u : RS) : RS := fun D n ρ => u D n (frz i ρ)
section
variable {X : Cx} {Γ : Cn} {st : Stmt} {rest : List Stmt} {t u : RS} {e : Expr} {te : RE} {pos : Pos} {i : Nat} {x : Str}
theorem vss_nil : PSs X [] (lS Γ vNext) := PSs.imp pss_nil fun D' σ H ⟨ρ, n, F, D, rel, h, ok⟩ => ok.nx ρ n F σ H (le.refl _) rel h
theorem vss_cons (h1 : PS X st (lS Γ t)) (h2 : PSs X rest (lS Γ u)) : PSs X (st :: rest) (lS Γ (vSeq t u)) := PSs.imp (pss_cons h1 h2) fun D' σ H ⟨ρ, n, F, D, rel, h, ok⟩ =>
  ⟨ρ, n, F, { D with nx := u D }, rel, h, ⟨fun ρ' n' F' σ' H' l rel' q => ⟨ρ', n', F', D, rel', q, ok.le l⟩, ok.bk, ok.ct, ok.rt⟩⟩
theorem vss_one (h1 : PS X st (lS Γ t)) : PSs X [st] (lS Γ t) := pss_one h1
theorem vss_frz (i : Nat) (h : PSs X rest (lS Γ u)) : PSs X rest (lS Γ (vFrz i u)) := PSs.imp h fun D' σ H ⟨ρ, n, F, D, rel, h, ok⟩ => by
  obtain ⟨F', l, r⟩ := rel.frz i
  exact ⟨_, n, F', D, r, h, ok.le l⟩
theorem vs_pass : PS X (.Pass pos) (lS Γ vNext) := PS.imp ps_pass fun D' σ H ⟨ρ, n, F, D, rel, h, ok⟩ => ok.nx ρ n F σ H (le.refl _) rel h
theorem vs_break : PS X (.Break pos) (lS Γ vBreak) := PS.imp ps_break fun D' σ H ⟨ρ, n, F, D, rel, h, ok⟩ => ok.bk ρ n F σ H (le.refl _) rel h
theorem vs_continue : PS X (.Continue pos) (lS Γ vCont) := PS.imp ps_continue fun D' σ H ⟨ρ, n, F, D, rel, h, ok⟩ => ok.ct ρ n F σ H (le.refl _) rel h
theorem vs_doc {x j pos'} : PS X (.Expr (.Constant (.str x) j pos) pos') (lS Γ vNext) := PS.imp ps_doc fun D' σ H ⟨ρ, n, F, D, rel, h, ok⟩ => ok.nx ρ n F σ H (le.refl _) rel h
theorem vs_expr (he : PE X e (lE Γ te)) (hs : swapsWith e none pos.line X.env = pure false := by rfl) : PS X (.Expr e pos) (lS Γ (vDrop te)) := PS.imp (ps_expr he hs) fun D' σ H ⟨ρ, n, F, D, rel, h, ok⟩ =>
  ⟨ρ, n, F, _, rel, h, fun v t n1 F1 H1 f1 s1 r1 q1 => ok.nx ρ n1 F1 σ H1 f1.le (rel.go f1 s1) q1⟩
theorem vs_ret (he : PE X e (lE Γ te)) : PS X (.Return (some e) pos) (lS Γ (vRet te)) := PS.imp (ps_ret he) fun D' σ H ⟨ρ, n, F, D, rel, h, ok⟩ =>
  ⟨ρ, n, F, _, rel, h, fun v t n1 F1 H1 f1 s1 r1 q1 => ok.rt v t n1 F1 H1 (rel.fr.trans f1) s1 r1 q1⟩
theorem vs_retN : PS X (.Return none pos) (lS Γ vRetN) := PS.imp ps_retN fun D' σ H ⟨ρ, n, F, D, rel, h, ok⟩ => ok.rt .non .non n F H rel.fr rel.sub .non h
theorem vs_if {c : Expr} {a b : List Stmt} {tc : RT} (hc : PT X c (lT Γ tc)) (ha : PSs X a (lS Γ t)) (hb : PSs X b (lS Γ u)) : PS X (.If c a b pos) (lS Γ (vIfS tc t u)) := PS.imp (ps_if hc ha hb) fun D' σ H ⟨ρ, n, F, D, rel, h, ok⟩ =>
  ⟨ρ, n, F, _, rel, h, fun b n1 F1 H1 f1 s1 q1 => by
    cases b with
    | true => exact iteT ⟨ρ, n1, F1, D, rel.go f1 s1, (show t D n1 ρ from q1), ok.le f1.le⟩
    | false => exact iteF ⟨ρ, n1, F1, D, rel.go f1 s1, (show u D n1 ρ from q1), ok.le f1.le⟩⟩
theorem set_in {D' : Ends} {σ : L2.St} {H : Hp} (h : lS Γ (vSet i te) D' σ H) : tAsg (lE Γ te) (gName i) D' σ H := by
  obtain ⟨ρ, n, F, D, rel, h, ok⟩ := h
  exact ⟨ρ, n, F, _, rel, h, fun v t n1 F1 H1 f1 s1 r1 q1 => ok.nx _ n1 F1 _ H1 f1.le ((rel.go f1 s1).set r1) q1⟩
theorem vs_set {pos' : Pos} (hN : X.N.Nodup) (hi : X.N[i]? = some x) (hx : Loc X.env.scope x) (he : PE X e (lE Γ te)) (hs : swapsWith e (some (.Name x pos')) pos.line X.env = pure false := by rfl) (hf : X.fn x = true ∨ X.env.scope.names.lookup x = some .local := by first | exact .inl rfl | exact .inr rfl | assumption) :
    PS X (.Assign [.Name x pos'] e pos) (lS Γ (vSet i te)) := PS.imp (ps_set hN hi hx he hs hf) fun D' σ H h => set_in h
/-- x = [..], a list that will be changed -/
def vSetOL (i : Nat) (l : RA) : RS := fun D n ρ => l n ρ fun ts n1 => ts.length ≤ sizeLine ∧ D.nx n1 (ρ.set i (.ol ts))
theorem vs_setOL {pos' : Pos} {es : List Expr} {tl : RA} (hN : X.N.Nodup) (hi : X.N[i]? = some x) (hx : Loc X.env.scope x) (he : PA X es (lA Γ tl)) (hs : swapsWith (.List es pos') (some (.Name x pos')) pos.line X.env = pure false := by rfl) {p2 p3 : Pos} (hs2 : swapsWith (.List es p2) (some (.Name x p3)) pos.line X.env = pure false := by rfl) (hf : X.fn x = true ∨ X.env.scope.names.lookup x = some .local := by first | exact .inl rfl | exact .inr rfl | assumption) :
    PS X (.Assign [.Name x p3] (.List es p2) pos) (lS Γ (vSetOL i tl)) := PS.imp (ps_set hN hi hx (pe_lst he) hs2 hf) fun D' σ H ⟨ρ, n, F, D, rel, h, ok⟩ =>
  ⟨ρ, n, F, _, rel, h, fun vs ts n1 F1 H1 f1 s1 r1 q1 => ⟨by rw [r1.length]; exact q1.1, fun p hp => ok.nx _ n1 F1 _ _ f1.le ((rel.go f1 s1).setO (s1 := .ol ts) hp fun a b => ⟨p, vs, rfl, upd_same, a, b, r1⟩) q1.2⟩⟩
/-! ### targets -/
def gNm (i : Nat) : RG := fun t n ρ Q => Q n (ρ.set i (.v t))
def gNil : RGs
  | [], n, ρ, Q => Q n ρ
  | _ :: _, _, _, _ => False
def gCons (g : RG) (gs : RGs) : RGs
  | t :: ts, n, ρ, Q => g t n ρ fun n1 ρ1 => gs ts n1 ρ1 Q
  | [], _, _, _ => False
def gTup (gs : RGs) : RG
  | .tup ts, n, ρ, Q => gs ts n ρ Q
  | _, _, _, _ => False
theorem wipe_set (x : Option V) (i : Nat) : ∀ (σ : L2.St) (vs : List Nat), wipe (σ.set i x) vs = if i ∈ vs then wipe σ vs else (wipe σ vs).set i x
  | σ, [] => by simp [wipe]
  | σ, v :: vs => by
    unfold wipe
    rw [wipe_set x i σ vs]
    by_cases h : i = v
    · subst h
      by_cases h2 : i ∈ vs
      · simp [h2]
      · simp [h2]
    · by_cases h2 : i ∈ vs
      · simp [h, h2]
      · simp only [h2, if_false, List.mem_cons, h, false_or]
        rw [List.set_comm _ _ h]
theorem vg_name {vs : List Nat} (hv : i ∈ vs) (hN : X.N.Nodup) (hi : X.N[i]? = some x) (hx : Loc X.env.scope x) (hf : X.fn x = true ∨ X.env.scope.names.lookup x = some .local := by first | exact .inl rfl | exact .inr rfl | assumption) : PG X (.Name x pos) (lG Γ vs (gNm i)) :=
  PG.imp (pg_name hN hi hx hf) fun v σ H Q' ⟨ρ, n, F, t, Q, rel, r, h, k⟩ => k _ _ (rel.set r) (by rw [wipe_set, if_pos hv]) h
theorem vgs_nil {vs : List Nat} : PGs X [] (lGs Γ vs gNil) := PGs.imp pgs_nil fun ws σ H Q' ⟨ρ, n, F, ts, Q, rel, r, h, k⟩ => by
  cases r with
  | nil => exact ⟨rfl, k σ ρ rel rfl h⟩
  | cons _ _ => exact h.elim
theorem vgs_cons {vs : List Nat} {es : List Expr} {g : RG} {gs : RGs} (h1 : PG X e (lG Γ vs g)) (h2 : PGs X es (lGs Γ vs gs)) (hs : (assignEach (e :: es) X.env).map (·.2) = assign e X.env :: (assignEach es X.env).map (·.2) := by rfl) : PGs X (e :: es) (lGs Γ vs (gCons g gs)) :=
  PGs.imp (pgs_cons h1 h2 hs) fun ws σ H Q' ⟨ρ, n, F, ts, Q, rel, r, h, k⟩ => by
    cases r with
    | nil => exact h.elim
    | cons r1 r2 => exact ⟨_, _, rfl, ρ, n, F, _, _, rel, r1, h, fun σ2 ρ2 rel2 w2 q2 => ⟨ρ2, n, F, _, _, rel2, r2, q2, fun σ3 ρ3 rel3 w3 q3 => k σ3 ρ3 rel3 (w3.trans w2) q3⟩⟩
def gTupN (k : Nat) (gs : RGs) : RG
  | .tup ts, n, ρ, Q => ts.length = k ∧ gs ts n ρ Q
  | _, _, _, _ => False
theorem vg_tup {vs : List Nat} {es : List Expr} {k : Nat} {gs : RGs} {m : Nat} (hK : X.K = Γ.g.K) (hc : X.calm = true) (h : PGs X es (lGs Γ vs gs)) (hn : (assignEach es X.env).length = m := by rfl) (hst : (assignEach es X.env).findIdx? (·.1) = none := by rfl) : PG X (.Tuple es k pos) (lG Γ vs (gTupN m gs)) :=
  PG.imp (pg_tup hc h hn hst) fun v σ H Q' ⟨ρ, n, F, t, Q, rel, r, h, k⟩ => by
    cases r with
    | tup q r => exact ⟨_, _, rfl, by rw [hK]; exact sqT_sub rel.sub q, by rw [r.length]; exact h.1, ρ, n, F, _, _, rel, r, h.2, k⟩
    | _ => exact h.elim
def vAsg (e : RE) (g : RG) : RS := fun D n ρ => e n ρ fun t n1 => g t n1 ρ D.nx
theorem vs_asg {vs : List Nat} {tg : Expr} {g : RG} (he : PE X e (lE Γ te)) (hg : PG X tg (lG Γ vs g)) (hs : swapsWithSole [tg] e pos.line X.env = pure false := by rfl) (hw : swappedStores [tg] e X.env = pure none := by rfl)
    (h1 : (assignEach [tg] X.env).map (·.2) = [assign tg X.env] := by rfl) : PS X (.Assign [tg] e pos) (lS Γ (vAsg te g)) := PS.imp (ps_asg he hg hs hw h1) fun D' σ H ⟨ρ, n, F, D, rel, h, ok⟩ =>
  ⟨ρ, n, F, _, rel, h, fun v t n1 F1 H1 f1 s1 r1 q1 => ⟨ρ, n1, F1, t, _, rel.go f1 s1, r1, q1, fun σ2 ρ2 rel2 w2 q2 => ok.nx ρ2 n1 F1 σ2 H1 f1.le rel2 q2⟩⟩
/-- a, b = e, f -/
def parQ (i j : Nat) (D : VEnds) (ρ : List Sl) : List Tr → Nat → Prop
  | [a, b], n => D.nx n ((ρ.set i (.v a)).set j (.v b))
  | _, _ => False
def vPar (i j : Nat) (l : RA) : RS := fun D n ρ => l n ρ fun ts n1 => parQ i j D ρ ts n1
theorem Reps.two {g : Gb} {F : FH} {vs : List V} {a b : Tr} (r : Reps g F vs [a, b]) : ∃ v w, vs = [v, w] ∧ Rep g F v a ∧ Rep g F w b := by
  cases r with | cons r1 r => cases r with | cons r2 r => cases r with | nil => exact ⟨_, _, rfl, r1, r2⟩
theorem Reps.three {g : Gb} {F : FH} {vs : List V} {a b c : Tr} (r : Reps g F vs [a, b, c]) : ∃ v w z, vs = [v, w, z] ∧ Rep g F v a ∧ Rep g F w b ∧ Rep g F z c := by
  cases r with | cons r1 r => cases r with | cons r2 r => cases r with | cons r3 r => cases r with | nil => exact ⟨_, _, _, rfl, r1, r2, r3⟩
theorem par_in {j : Nat} {tl : RA} {D' : Ends} {σ : L2.St} {H : Hp} (h : lS Γ (vPar i j tl) D' σ H) : tPar i j (lA Γ tl) D' σ H := by
  obtain ⟨ρ, n, F, D, rel, h, ok⟩ := h
  refine ⟨ρ, n, F, _, rel, h, fun vs ts n1 F1 H1 f1 s1 r1 q1 => ?_⟩
  match ts, q1, r1 with
  | [a, b], q1, r1 =>
    obtain ⟨v, w, rfl, ra, rb⟩ := r1.two
    exact ⟨v, w, rfl, ok.nx _ n1 F1 _ H1 f1.le (((rel.go f1 s1).set ra).set rb) q1⟩
def par3Q (i j l : Nat) (D : VEnds) (ρ : List Sl) : List Tr → Nat → Prop
  | [a, b, c], n => D.nx n (((ρ.set i (.v a)).set j (.v b)).set l (.v c))
  | _, _ => False
def vPar3 (i j l : Nat) (t : RA) : RS := fun D n ρ => t n ρ fun ts n1 => par3Q i j l D ρ ts n1
theorem par3_in {j l : Nat} {tl : RA} {D' : Ends} {σ : L2.St} {H : Hp} (h : lS Γ (vPar3 i j l tl) D' σ H) : tPar3 i j l (lA Γ tl) D' σ H := by
  obtain ⟨ρ, n, F, D, rel, h, ok⟩ := h
  refine ⟨ρ, n, F, _, rel, h, fun vs ts n1 F1 H1 f1 s1 r1 q1 => ?_⟩
  match ts, q1, r1 with
  | [a, b, c], q1, r1 =>
    obtain ⟨v, w, z, rfl, ra, rb, rc⟩ := r1.three
    exact ⟨v, w, z, rfl, ok.nx _ n1 F1 _ H1 f1.le ((((rel.go f1 s1).set ra).set rb).set rc) q1⟩
theorem vs_of {t' : TS} (h : PS X st t') (i : ∀ D' σ H, lS Γ t D' σ H → t' D' σ H) : PS X st (lS Γ t) := PS.imp h i
/-! ### while -/
def wN (W : Nat → Nat → List Sl → Prop) (m : Nat) : Nat → List Sl → Prop := fun n ρ => ∃ m', m' < m ∧ W m' n ρ
def vWhile (c : RT) (tb : RS) : RS := fun D n ρ => ∃ W : Nat → Nat → List Sl → Prop, (∃ m, W m n ρ) ∧ ∀ m n ρ, W m n ρ → c n ρ fun b n1 => if b = true then tb { D with nx := wN W m, ct := wN W m, bk := D.nx } n1 ρ else D.nx n1 ρ
theorem vs_while {c : Expr} {body : List Stmt} {tc : RT} {tb : RS} (hp : PassesOwn (model X.prog X.w) X.A X.env X.xe) (hc : PT X c (lT Γ tc)) (hb : PSs X body (lS Γ tb)) : PS X (.While c body [] pos) (lS Γ (vWhile tc tb)) := PS.imp (ps_while hp hc hb) fun D' σ H ⟨ρ, n, F, D, rel, ⟨W, ⟨m0, w0⟩, turn⟩, ok⟩ => by
  refine ⟨fun m σ H => ∃ ρ n F', le F F' ∧ Rel Γ n ρ F' σ H ∧ W m n ρ, ⟨m0, ρ, n, F, le.refl _, rel, w0⟩, ?_⟩
  rintro m σ H ⟨ρ, n, F', l, rel, w⟩
  refine ⟨ρ, n, F', _, rel, turn m n ρ w, fun b n1 F1 H1 f1 s1 q1 => ?_⟩
  cases b with
  | true =>
    refine iteT ⟨fun σ' H' => ∃ m', m' < m ∧ ∃ ρ n F', le F F' ∧ Rel Γ n ρ F' σ' H' ∧ W m' n ρ, fun σ' H' h => h, ρ, n1, F1, _, rel.go f1 s1, q1, ?_⟩
    have l1 := l.trans f1.le
    have again : ThenS Γ F1 (wN W m) (fun σ' H' => ∃ m', m' < m ∧ ∃ ρ n F', le F F' ∧ Rel Γ n ρ F' σ' H' ∧ W m' n ρ) := fun ρ2 n2 F2 σ2 H2 l2 r2 ⟨m', hm, w'⟩ => ⟨m', hm, ρ2, n2, F2, l1.trans l2, r2, w'⟩
    exact ⟨again, fun ρ2 n2 F2 σ2 H2 l2 r2 q2 => ok.nx ρ2 n2 F2 σ2 H2 (l1.trans l2) r2 q2, again, ok.rt⟩
  | false => exact iteF (ok.nx ρ n1 F1 σ H1 (l.trans f1.le) (rel.go f1 s1) q1)
/-! ### for -/
structure ItV (g : Gb) (F : FH) (J : It) (ts : List Tr) : Prop where
  stop : ∀ n F' H, le F F' → Sub g n F' H → J.stop ts.length H
  go : ∀ (i n : Nat) F' H, i < ts.length → le F F' → Sub g n F' H → J.go i H
  yld : ∀ (i : Nat) t n F' H x H', ts[i]? = some t → le F F' → Sub g n F' H → J.yld i H x H' → ∃ F2, Fr F' H F2 H' ∧ Sub g n F2 H' ∧ Rep g F2 x t
def lI (Γ : Cn) (it : RA) : TI := fun σ H R => ∃ ρ n F Q, Rel Γ n ρ F σ H ∧ it n ρ Q ∧ ∀ J ts n' F' H', Fr F H F' H' → Sub Γ.g n' F' H' → ItV Γ.g F' J ts → Q ts n' → R J H'
theorem PI.imp {tg iter : Expr} {wi wi' : TI} (h : PI X tg iter wi) (i : ∀ σ H R, wi' σ H R → wi σ H R) : PI X tg iter wi' := ⟨fun pins s σ H R I q => h.run pins s σ H R I (i _ _ _ q)⟩
def forW (g : RG) (tb : RS) (D : VEnds) : List Tr → Nat → List Sl → Prop
  | [], n, ρ => D.nx n ρ
  | t :: ts, n, ρ => g t n ρ fun n1 ρ1 => tb { D with nx := forW g tb D ts, ct := forW g tb D ts, bk := D.nx } n1 ρ1
def vFor (it : RA) (g : RG) (tb : RS) : RS := fun D n ρ => it n ρ fun ts n1 => forW g tb D ts n1 ρ
theorem vs_for {tg iter : Expr} {body : List Stmt} {it : RA} {g : RG} {tb : RS} {vs : List Nat} (hp : PassesOwn (model X.prog X.w) X.A X.env X.xe) (hc : X.calm = true) (hi : PI X tg iter (lI Γ it)) (hg : PG X tg (lG Γ vs g)) (hb : PSs X body (lS Γ tb))
    (hs : ∀ x, foldedSetIterable iter X.env x = pure x := by intro _; rfl) : PS X (.For tg iter body [] pos) (lS Γ (vFor it g tb)) := PS.imp (ps_for hp hc hi hg hb hs) fun D' σ H ⟨ρ, n, F, D, rel, h, ok⟩ => by
  refine ⟨ρ, n, F, _, rel, h, fun J ts n1 F1 H1 f1 s1 iv q1 => ?_⟩
  refine ⟨fun i m σ H => i + m = ts.length ∧ ∃ ρ n F', le F1 F' ∧ Rel Γ n ρ F' σ H ∧ forW g tb D (ts.drop i) n ρ, ⟨ts.length, by omega, ρ, n1, F1, le.refl _, rel.go f1 s1, q1⟩, ?_⟩
  rintro i m σ H ⟨hm, ρ, n, F', l, rel, w⟩
  by_cases hi : i < ts.length
  · rw [List.drop_eq_getElem_cons hi] at w
    refine .inr ⟨iv.go i n F' H hi l rel.sub, fun σ' H' => i + 1 + (m - 1) = ts.length ∧ ∃ ρ n F', le F1 F' ∧ Rel Γ n ρ F' σ' H' ∧ forW g tb D (ts.drop (i + 1)) n ρ, fun σ' H' h => ⟨m - 1, by omega, h⟩, fun x H' y => ?_⟩
    obtain ⟨F2, f2, s2, r2⟩ := iv.yld i ts[i] n F' H x H' (List.getElem?_eq_getElem hi) l rel.sub y
    refine ⟨ρ, n, F2, ts[i], _, rel.go f2 s2, r2, w, fun σ3 ρ3 rel3 w3 q3 => ⟨ρ3, n, F2, _, rel3, q3, ?_⟩⟩
    have l2 := l.trans f2.le
    have again : ThenS Γ F2 (forW g tb D (ts.drop (i + 1))) (fun σ' H' => i + 1 + (m - 1) = ts.length ∧ ∃ ρ n F', le F1 F' ∧ Rel Γ n ρ F' σ' H' ∧ forW g tb D (ts.drop (i + 1)) n ρ) := fun ρ4 n4 F4 σ4 H4 l4 r4 q4 => ⟨by omega, ρ4, n4, F4, l2.trans l4, r4, q4⟩
    exact ⟨again, fun ρ4 n4 F4 σ4 H4 l4 r4 q4 => ok.nx ρ4 n4 F4 σ4 H4 ((f1.le.trans l2).trans l4) r4 q4, again, ok.rt⟩
  · have e : i = ts.length := by omega
    subst e
    rw [List.drop_length] at w
    exact .inl ⟨iv.stop n F' H l rel.sub, ok.nx ρ n F' σ H (f1.le.trans l) rel w⟩
/-! ### what is walked -/
def lstQ : Tr → Nat → (List Tr → Nat → Prop) → Prop
  | .lst ts, n, Q => Q ts n
  | _, _, _ => False
def tupQ : Tr → Nat → (List Tr → Nat → Prop) → Prop
  | .tup ts, n, Q => Q ts n
  | _, _, _ => False
def iLst (e : RE) : RA := fun n ρ Q => e n ρ fun t n1 => lstQ t n1 Q
def iTup (e : RE) : RA := fun n ρ Q => e n ρ fun t n1 => tupQ t n1 Q
theorem itv_list {g : Gb} {F : FH} {a : Addr} {vs : List V} {ts : List Tr} (e : F a = some (.ob (.lst vs))) (r : Reps g F vs ts) : ItV g F (Itl g.K a) ts := by
  have sq : ∀ {n F' H}, le F F' → Sub g n F' H → SqL g.K H a vs := fun l s => .inl (.inl (s.at_ (l _ _ e)))
  refine ⟨fun n F' H l s => ⟨vs, sq l s, by rw [r.length]; exact Nat.le_refl _⟩, fun i n F' H hi l s => ?_, fun i t n F' H x H' ht l s y => ?_⟩
  · exact ⟨vs, vs[i]'(by rw [r.length]; exact hi), sq l s, List.getElem?_eq_getElem _⟩
  · obtain ⟨e1, y⟩ := y
    subst e1
    obtain ⟨v, hv, rv⟩ := r.get i ht
    have := y vs (sq l s)
    rw [hv] at this
    cases this
    exact ⟨F', Fr.refl _ _, s, rv.mono l⟩
theorem itv_tup {g : Gb} {F : FH} {a : Addr} {vs : List V} {ts : List Tr} (e : SqT g.K (hp F) a vs) (r : Reps g F vs ts) : ItV g F (Itt g.K a) ts := by
  have sq : ∀ {n F' H}, le F F' → Sub g n F' H → SqT g.K H a vs := fun l s => sqT_sub s (sqT_same l.hp e)
  refine ⟨fun n F' H l s => ⟨vs, sq l s, by rw [r.length]; exact Nat.le_refl _⟩, fun i n F' H hi l s => ?_, fun i t n F' H x H' ht l s y => ?_⟩
  · exact ⟨vs, vs[i]'(by rw [r.length]; exact hi), sq l s, List.getElem?_eq_getElem _⟩
  · obtain ⟨e1, y⟩ := y
    subst e1
    obtain ⟨v, hv, rv⟩ := r.get i ht
    have := y vs (sq l s)
    rw [hv] at this
    cases this
    exact ⟨F', Fr.refl _ _, s, rv.mono l⟩
theorem vi_list {tg : Expr} (hK : X.K = Γ.g.K) (he : PE X e (lE Γ te)) : PI X tg e (lI Γ (iLst te)) := PI.imp (pi_list he) fun σ H R ⟨ρ, n, F, Q, rel, h, k⟩ =>
  ⟨ρ, n, F, _, rel, h, fun v t n1 F1 H1 f1 s1 r1 q1 => by
    cases r1 with
    | lst e r => exact ⟨_, rfl, ⟨_, .inl (.inl (s1.at_ e))⟩, by rw [hK]; exact k _ _ n1 F1 H1 f1 s1 (itv_list e r) q1⟩
    | _ => exact q1.elim⟩
theorem vi_tup {tg : Expr} (hK : X.K = Γ.g.K) (he : PE X e (lE Γ te)) : PI X tg e (lI Γ (iTup te)) := PI.imp (pi_tup he) fun σ H R ⟨ρ, n, F, Q, rel, h, k⟩ =>
  ⟨ρ, n, F, _, rel, h, fun v t n1 F1 H1 f1 s1 r1 q1 => by
    cases r1 with
    | tup e r => exact ⟨_, rfl, ⟨_, by rw [hK]; exact sqT_sub s1 e⟩, by rw [hK]; exact k _ _ n1 F1 H1 f1 s1 (itv_tup e r) q1⟩
    | _ => exact q1.elim⟩
/-- lo, lo + 1, .., n of them -/
def rngT (lo : Int) (n : Nat) : List Tr := (List.range n).map fun (i : Nat) => Tr.int (lo + i)
theorem itv_rng {g : Gb} {F : FH} (lo : Int) (k : Nat) : ItV g F (Itr lo k) (rngT lo k) := by
  have hl : (rngT lo k).length = k := by simp [rngT]
  refine ⟨fun n F' H l s => by rw [hl]; exact Nat.le_refl _, fun i n F' H hi l s => by rw [hl] at hi; exact hi, fun i t n F' H x H' ht l s y => ?_⟩
  obtain ⟨e1, e2⟩ := y
  subst e1 e2
  have hi : i < k := by
    have := (List.getElem?_eq_some_iff.mp ht).1
    rw [hl] at this
    exact this
  have et : t = Tr.int (lo + i) := by
    unfold rngT at ht
    rw [List.getElem?_map, List.getElem?_range hi] at ht
    cases ht
    rfl
  subst et
  exact ⟨F', Fr.refl _ _, s, .int _⟩
def rng1Q (Q : List Tr → Nat → Prop) : List Tr → Nat → Prop
  | [.int j], n => (-(2 ^ 62) ≤ j ∧ j < 2 ^ 62) ∧ Q (rngT 0 j.toNat) n
  | _, _ => False
def iRng1 (l : RA) : RA := fun n ρ Q => l n ρ (rng1Q Q)
def rng2Q (Q : List Tr → Nat → Prop) : List Tr → Nat → Prop
  | [.int i, .int j], n => (-(2 ^ 62) ≤ i ∧ i < 2 ^ 62 ∧ -(2 ^ 62) ≤ j ∧ j < 2 ^ 62) ∧ Q (rngT i (j - i).toNat) n
  | _, _ => False
def iRng2 (l : RA) : RA := fun n ρ Q => l n ρ (rng2Q Q)
theorem vi_range1 {tg a : Expr} {ta : RA} {p : Pos} (hg : Gl X "range") (hm : X.mg "range" = none) (ha : PA X [a] (lA Γ ta)) (hs : starEach [a] X.env = [(false, eval a X.env)] := by rfl) : PI X tg (.Call (.Name "range" p) [a] [] pos) (lI Γ (iRng1 ta)) :=
  PI.imp (pi_range1 hg hm ha hs) fun σ H R ⟨ρ, n, F, Q, rel, h, k⟩ => ⟨ρ, n, F, _, rel, h, fun vs ts n1 F1 H1 f1 s1 r1 q1 => by
    match ts, q1, r1 with
    | [.int j], q1, r1 =>
      cases r1 with | cons r r2 => cases r with | int => cases r2 with | nil => exact ⟨j, rfl, q1.1.1, q1.1.2, k _ _ n1 F1 H1 f1 s1 (itv_rng 0 _) q1.2⟩⟩
theorem vi_range2 {tg a b : Expr} {ta : RA} {p : Pos} (hg : Gl X "range") (hm : X.mg "range" = none) (ha : PA X [a, b] (lA Γ ta)) (hs : starEach [a, b] X.env = [(false, eval a X.env), (false, eval b X.env)] := by rfl) (hs2 : starEach [b] X.env = [(false, eval b X.env)] := by rfl) : PI X tg (.Call (.Name "range" p) [a, b] [] pos) (lI Γ (iRng2 ta)) :=
  PI.imp (pi_range2 hg hm ha hs hs2) fun σ H R ⟨ρ, n, F, Q, rel, h, k⟩ => ⟨ρ, n, F, _, rel, h, fun vs ts n1 F1 H1 f1 s1 r1 q1 => by
    match ts, q1, r1 with
    | [.int i, .int j], q1, r1 =>
      cases r1 with | cons r r2 => cases r with | int => cases r2 with | cons r r2 => cases r with | int => cases r2 with | nil => exact ⟨i, j, rfl, q1.1, k _ _ n1 F1 H1 f1 s1 (itv_rng _ _) q1.2⟩⟩
end
end VL
/-! comprehensions, owned lists, fields of self, built-ins -/
namespace VL
open PySem L2 DS PyProof.Rows
section
variable {X : Cx} {Γ : Cn} {st : Stmt} {rest : List Stmt} {t u : RS} {e : Expr} {te ta tb : RE} {pos : Pos} {i : Nat} {x : Str}
def vNever : RS := fun _ _ _ => False
theorem vs_never : PS X st (lS Γ vNever) := PS.imp ps_never fun D' σ H ⟨ρ, n, F, D, rel, h, ok⟩ => h
theorem vss_never {sts : List Stmt} : PSs X sts (lS Γ vNever) := PSs.imp pss_never fun D' σ H ⟨ρ, n, F, D, rel, h, ok⟩ => h
/-! ### comprehensions -/
def wipeT (ρ : List Sl) : List Nat → List Sl
  | [] => ρ
  | v :: vs => (wipeT ρ vs).set v .un
theorem Rel.unset {Γ : Cn} {n : Nat} {ρ : List Sl} {F : FH} {σ : L2.St} {H : Hp} (r : Rel Γ n ρ F σ H) (i : Nat) (x : Option V) : Rel Γ n (ρ.set i .un) F (σ.set i x) H := by
  refine ⟨r.ok, r.fr, r.sub, by simp [r.len], fun j s ej => ?_, fun j k b s w ne ej ek oj ok sj sk => ?_⟩
  · by_cases q : j = i
    · subst q
      rw [List.getElem?_set, if_pos rfl] at ej
      split at ej
      · rename_i hl
        cases ej
        rw [r.len] at hl
        exact ⟨x, by rw [List.getElem?_set, if_pos rfl, if_pos hl], trivial⟩
      · cases ej
    · rw [List.getElem?_set_ne (Ne.symm q)] at ej
      rw [List.getElem?_set_ne (Ne.symm q)]
      exact r.sl j s ej
  · have nj : j ≠ i := fun z => by
      subst z
      rw [List.getElem?_set, if_pos rfl] at ej
      split at ej
      · cases ej; cases oj
      · cases ej
    have nk : k ≠ i := fun z => by
      subst z
      rw [List.getElem?_set, if_pos rfl] at ek
      split at ek
      · cases ek; cases ok
      · cases ek
    rw [List.getElem?_set_ne (Ne.symm nj)] at ej sj
    rw [List.getElem?_set_ne (Ne.symm nk)] at ek sk
    exact r.dis j k b s w ne ej ek oj ok sj sk
theorem Rel.wipe {Γ : Cn} {n : Nat} {ρ : List Sl} {F : FH} {σ : L2.St} {H : Hp} (r : Rel Γ n ρ F σ H) : ∀ vs : List Nat, Rel Γ n (wipeT ρ vs) F (L2.wipe σ vs) H
  | [] => r
  | v :: vs => (Rel.wipe r vs).unset v none
def lcW (g : RG) (tt : RT) (te : RE) (ρ : List Sl) (Q : VQ) : List Tr → List Tr → Nat → Prop
  | [], acc, n => Q (.lst acc) n
  | t :: ts, acc, n => g t n ρ fun n1 ρ1 => tt n1 ρ1 fun b n2 => if b = true then te n2 ρ1 fun y n3 => acc.length < sizeLine ∧ lcW g tt te ρ Q ts (acc ++ [y]) n3 else lcW g tt te ρ Q ts acc n2
def vLc (it : RA) (g : RG) (tt : RT) (te : RE) (vs : List Nat) : RE := fun n ρ Q => it n ρ fun ts n1 => lcW g tt te (wipeT ρ vs) Q ts [] n1
theorem Rel.nox2 {n : Nat} {ρ : List Sl} {F : FH} {σ : L2.St} {H : Hp} (r : Rel Γ n ρ F σ H) : Rel Γ.nox n ρ F σ H := r.nox
theorem own_some {n : Nat} {ρ : List Sl} {F : FH} {σ : L2.St} {H : Hp} (r : Rel Γ n ρ F σ H) {D : Addr} (hD : H D = none) : ∀ (j : Nat) s, ρ[j]? = some s → isOwn s = true → σ[j]? ≠ some (some (.ref D)) := fun j s ej oj z => by
  obtain ⟨x, h2, h3⟩ := r.sl j s ej
  rw [z] at h2
  cases h2
  have : ∃ u, H D = some u := by
    cases s with
    | un => cases oj
    | v t => cases oj
    | ol xs => obtain ⟨a, vs, e', h, _⟩ := h3; cases e'; exact ⟨_, h⟩
    | oi C a dx fs => obtain ⟨fvs, e', h, _⟩ := h3; cases e'; exact ⟨_, h⟩
    | od kvs => obtain ⟨a, vs, e', h, _⟩ := h3; cases e'; exact ⟨_, h⟩
  obtain ⟨u, hu⟩ := this
  rw [hu] at hD
  cases hD
theorem Fr.none {F F' : FH} {H H' : Hp} {D : Addr} {o : HO} (f : Fr F H F' H') (e : F D = none) (h : H D = some o) (no : ∀ ps, o ≠ .tbl ps := by intro _ z; cases z) : F' D = none := by
  cases q : F' D with
  | none => rfl
  | some w =>
    rcases f.fresh D (by rw [q]; intro z; cases z) with z | z
    · exact absurd e z
    · rw [nt_some h no] at z; cases z
theorem lc_in {it : RA} {g : RG} {tt : RT} {vs : List Nat} {σ : L2.St} {H : Hp} {Q' : VK} (h : lE Γ (vLc it g tt te vs) σ H Q') : tLc (lI Γ it) (lG Γ.nox vs g) (lT Γ.nox tt) (lE Γ.nox te) vs σ H Q' := by
  obtain ⟨ρ, n, F, Q, rel, h, k⟩ := h
  refine ⟨ρ, n, F, _, rel, h, fun J ts n1 F1 H1 f1 s1 iv q1 D hD => ?_⟩
  have rel1 := rel.go f1 s1
  have rw1 := rel1.wipe vs
  have away := own_some rw1 hD
  have fD := s1.free hD
  have h0 : nt Γ.H0 D = none := by
    cases q : nt Γ.H0 D with
    | none => rfl
    | some w => exact absurd (nt_none hD) (rel1.fr.there D (by rw [q]; intro z; cases z))
  obtain ⟨fa, sa⟩ := alloc0 (o := .lst []) s1 hD
  refine ⟨fun i m H => i + m = ts.length ∧ ∃ n F avs acc, Fr F1 H1 F H ∧ Sub Γ.g n F H ∧ H D = some (.lst avs) ∧ F D = none ∧ Reps Γ.g F avs acc ∧ Rel Γ n (wipeT ρ vs) F (L2.wipe σ vs) H ∧ lcW g tt te (wipeT ρ vs) Q (ts.drop i) acc n,
    ⟨ts.length, by omega, n1, F1, [], [], fa, sa, upd_same, fD, .nil, rw1.go fa sa, q1⟩, ?_⟩
  rintro i m G ⟨hm, n, F2, avs, acc, f2, s2, eD, nD, ra, rel2, w⟩
  by_cases hi : i < ts.length
  · rw [List.drop_eq_getElem_cons hi] at w
    refine .inr ⟨iv.go i n F2 G hi f2.le s2, fun G' => i + 1 + (m - 1) = ts.length ∧ ∃ n F avs acc, Fr F1 H1 F G' ∧ Sub Γ.g n F G' ∧ G' D = some (.lst avs) ∧ F D = none ∧ Reps Γ.g F avs acc ∧ Rel Γ n (wipeT ρ vs) F (L2.wipe σ vs) G' ∧ lcW g tt te (wipeT ρ vs) Q (ts.drop (i + 1)) acc n, fun G' h => ⟨m - 1, by omega, h⟩, fun x G' y => ?_⟩
    obtain ⟨F3, f3, s3, r3⟩ := iv.yld i ts[i] n F2 G x G' (List.getElem?_eq_getElem hi) f2.le s2 y
    have rel3 := rel2.go f3 s3
    refine ⟨wipeT ρ vs, n, F3, ts[i], _, rel3.nox, r3, w, fun σ4 ρ4 rel4 w4 q4 => ⟨?_, ρ4, n, F3, _, rel4, q4, fun b n5 F5 G5 f5 s5 q5 => ?_⟩⟩
    · have e2 : ∀ (us : List Nat) (τ : L2.St), L2.wipe (L2.wipe τ us) us = L2.wipe τ us := by
        have aux : ∀ (us us' : List Nat) (τ : L2.St), (∀ v ∈ us', v ∈ us) → L2.wipe (L2.wipe τ us') us = L2.wipe τ us := by
          intro us us'
          induction us' with
          | nil => intro τ _; rfl
          | cons v us' ih =>
            intro τ hv
            show L2.wipe ((L2.wipe τ us').set v none) us = _
            rw [wipe_set, if_pos (hv v (by simp))]
            exact ih τ fun z hz => hv z (by simp [hz])
        exact fun us τ => aux us us τ fun _ z => z
      rw [w4, e2]
    · have rel5 := rel4.go f5 s5
      have f35 : Fr F1 H1 F5 G5 := (f2.trans f3).trans f5
      have eD5 : G5 D = some (.lst avs) := (f3.trans f5).keep D _ eD (by rw [nD]; intro z; cases z) (fun ps z => nomatch z)
      have nD5 : F5 D = Option.none := (f3.trans f5).none nD eD
      have back5 : Rel Γ n5 (wipeT ρ vs) F5 (L2.wipe σ vs) G5 := (rel3.go f5 s5)
      cases b with
      | true =>
        refine iteT ⟨ρ4, n5, F5, _, rel5, (show te n5 ρ4 _ from q5), fun v t n6 F6 G6 f6 s6 r6 q6 => ?_⟩
        have eD6 : G6 D = some (.lst avs) := f6.keep D _ eD5 (by rw [nD5]; intro z; cases z) (fun ps z => nomatch z)
        have nD6 : F6 D = Option.none := f6.none nD5 eD5
        have ra6 : Reps Γ.g F6 avs acc := ((ra.mono f3.le).mono f5.le).mono f6.le
        have rel6 := back5.go f6 s6
        refine ⟨avs, eD6, by rw [ra6.length]; exact q6.1, by omega, n6, F6, avs ++ [v], acc ++ [t], (f35.trans f6).updN (nt_none hD), s6.upd eD6 (plain_lst _) nD6, upd_same, nD6, ra6.append (.cons r6 .nil), rel6.updD eD6 (plain_lst _) nD6 h0 away, q6.2⟩
      | false => exact iteF ⟨by omega, n5, F5, avs, acc, f35, s5, eD5, nD5, (ra.mono f3.le).mono f5.le, back5, (show lcW g tt te (wipeT ρ vs) Q (ts.drop (i + 1)) acc n5 from q5)⟩
  · have e : i = ts.length := by omega
    subst e
    rw [List.drop_length] at w
    refine .inl ⟨iv.stop n F2 G f2.le s2, ?_⟩
    obtain ⟨l3, s3⟩ := freeze s2 eD nD
    exact (k.go f1) _ _ n _ G (f2.frz (nt_none hD) nD) s3 (.lst updF_same (ra.mono l3)) w
theorem PTs.imp {ifs : List Expr} {t t' : TT} (h : PTs X ifs t) (i : ∀ σ H Q, t' σ H Q → t σ H Q) : PTs X ifs t' := ⟨fun pins s σ H Q I q => h.run pins s σ H Q I (i _ _ _ q)⟩
theorem vts_nil : PTs X [] (lT Γ vYes) := PTs.imp pts_nil fun σ H Q' ⟨ρ, n, F, Q, rel, h, k⟩ => k true n F H (Fr.refl _ _) rel.sub h
theorem vts_one {c : Expr} {t : RT} (h : PT X c (lT Γ t)) : PTs X [c] (lT Γ t) := pts_one h
theorem ve_lc {elt tg iter : Expr} {ifs : List Expr} {scope : Scope} {own : List (Str × Nat)} {it : RA} {g : RG} {tt : RT} (hc : X.calm = true) (hN : X.N.Nodup) (hi : PI X tg iter (lI Γ it)) (ok : BlkOk X.N X.env.scope scope own)
    (hg : ∀ (s : Shared) (H : Hp) (C : Addr) (cl : List (Str × Addr)) (fp : List Addr), PG (X.blk s H scope (compEnvC scope cl C X.env) fp) tg (lG Γ.nox (own.map (·.2)) g)) (ht : ∀ (s : Shared) (H : Hp) (C : Addr) (cl : List (Str × Addr)) (fp : List Addr), PTs (X.blk s H scope (compEnvC scope cl C X.env) fp) ifs (lT Γ.nox tt))
    (he : ∀ (s : Shared) (H : Hp) (C : Addr) (cl : List (Str × Addr)) (fp : List Addr), PE (X.blk s H scope (compEnvC scope cl C X.env) fp) elt (lE Γ.nox te)) (hs : ∀ x, foldedSetIterable iter X.env x = pure x := by intro _; rfl) :
    PE X (.ListComp elt [⟨tg, iter, ifs, 0⟩] scope pos) (lE Γ (vLc it g tt te (own.map (·.2)))) :=
  PE.imp (pe_lc hc hN hi ok hg ht he hs) fun σ H Q' h => lc_in h
theorem vs_setLc {y : Str} {py spos : Pos} {elt tg iter : Expr} {ifs : List Expr} {scope : Scope} {own : List (Str × Nat)} {it : RA} {g : RG} {tt : RT} (hc : X.calm = true) (hN : X.N.Nodup) (hy : X.N[i]? = some y) (hyl : X.env.scope.names.lookup y = some .local)
    (hsw : swapsWith (.ListComp elt [⟨tg, iter, ifs, 0⟩] scope pos) (some (.Name y py)) spos.line X.env = pure true) (hi : PI X tg iter (lI Γ it)) (ok : BlkOk X.N X.env.scope scope own)
    (hg : ∀ (s : Shared) (H : Hp) (C : Addr) (cl : List (Str × Addr)) (fp : List Addr), PG (X.blk s H scope (compEnvC scope cl C X.env) fp) tg (lG Γ.nox (own.map (·.2)) g)) (ht : ∀ (s : Shared) (H : Hp) (C : Addr) (cl : List (Str × Addr)) (fp : List Addr), PTs (X.blk s H scope (compEnvC scope cl C X.env) fp) ifs (lT Γ.nox tt))
    (he : ∀ (s : Shared) (H : Hp) (C : Addr) (cl : List (Str × Addr)) (fp : List Addr), PE (X.blk s H scope (compEnvC scope cl C X.env) fp) elt (lE Γ.nox te)) (hs : ∀ x, foldedSetIterable iter X.env x = pure x := by intro _; rfl) :
    PS X (.Assign [.Name y py] (.ListComp elt [⟨tg, iter, ifs, 0⟩] scope pos) spos) (lS Γ (vSet i (vLc it g tt te (own.map (·.2))))) :=
  PS.imp (ps_setLc hc hN hy hyl hsw hi ok hg ht he hs) fun D' σ H h => by
    obtain ⟨ρ, n, F, D, rel, h, ok⟩ := h
    exact lc_in ⟨ρ, n, F, _, rel, h, fun v t n1 F1 H1 f1 s1 r1 q1 => ok.nx _ n1 F1 _ H1 f1.le ((rel.go f1 s1).set r1) q1⟩
/-! ### owned lists -/
def appQ (i : Nat) (D : VEnds) (ρ : List Sl) (e : RE) : Sl → Nat → Prop
  | .ol xs, n => xs.length < sizeLine ∧ e n ρ fun t n1 => D.nx n1 (ρ.set i (.ol (xs ++ [t])))
  | _, _ => False
/-- x.append(e) -/
def vApp (i : Nat) (e : RE) : RS := fun D n ρ => appQ i D ρ e (gt ρ i) n
theorem own_get {n : Nat} {ρ : List Sl} {F : FH} {σ : L2.St} {H : Hp} (rel : Rel Γ n ρ F σ H) {xs : List Tr} (eg : gt ρ i = .ol xs) : ∃ a vs, ρ[i]? = some (.ol xs) ∧ σ[i]? = some (some (.ref a)) ∧ H a = some (.lst vs) ∧ F a = none ∧ nt Γ.H0 a = none ∧ Reps Γ.g F vs xs := by
  have ei := gt_get eg (fun z => nomatch z)
  obtain ⟨o, h1, a, vs, e, h2, h3, h4, h5⟩ := rel.sl i _ ei
  subst e
  exact ⟨a, vs, ei, h1, h2, h3, h4, h5⟩
theorem vs_app (h : PS X st (tDrop (tBM X.K "list" rAppend (tVar i) (tCons (lE Γ te) tNil)))) : PS X st (lS Γ (vApp i te)) :=
  PS.imp h fun D' σ H ⟨ρ, n, F, D, rel, h, ok⟩ => by
    have h : appQ i D ρ te (gt ρ i) n := h
    cases eg : gt ρ i with
    | ol xs =>
      rw [eg] at h
      obtain ⟨a, vs, ei, es, h2, h3, h4, h5⟩ := own_get rel eg
      refine ⟨.ref a, es, .inl ⟨rfl, vs, .inl (.inl h2)⟩, ρ, n, F, _, rel, h.2, fun v t n1 F1 H1 f1 s1 r1 q1 => ?_⟩
      have k2 := f1.keep a _ h2 (by rw [h3]; intro z; cases z) (fun ps z => nomatch z)
      have k3 := f1.none h3 h2
      have k5 := h5.mono f1.le
      refine ⟨a, vs, v, rfl, rfl, k2, by rw [k5.length]; exact h.1, ?_⟩
      exact ok.nx _ n1 F1 σ _ f1.le ((rel.go f1 s1).updO (s1 := .ol (xs ++ [t])) ei rfl rfl es k2 (plain_lst _) k3 h4 ⟨a, vs ++ [v], rfl, upd_same, k3, h4, k5.append (.cons r1 .nil)⟩) q1
    | _ => rw [eg] at h; exact h.elim
def setK (i : Nat) (D : VEnds) (ρ : List Sl) (xs : List Tr) (t : Tr) : Tr → Nat → Prop
  | .int j, n => ∃ l, ixN xs.length j = some l ∧ D.nx n (ρ.set i (.ol (xs.set l t)))
  | _, _ => False
def setQ (i : Nat) (D : VEnds) (ρ : List Sl) (k e : RE) : Sl → Nat → Prop
  | .ol xs, n => e n ρ fun t n1 => k n1 ρ fun j n2 => setK i D ρ xs t j n2
  | _, _ => False
/-- x[k] = e -/
def vSetI (i : Nat) (k e : RE) : RS := fun D n ρ => setQ i D ρ k e (gt ρ i) n
theorem vs_setI {tk : RE} (h : PS X st (tAsg (lE Γ te) (gSub (tVar i) (lE Γ tk) rSetL))) : PS X st (lS Γ (vSetI i tk te)) :=
  PS.imp h fun D' σ H ⟨ρ, n, F, D, rel, h, ok⟩ => by
    have h : setQ i D ρ tk te (gt ρ i) n := h
    cases eg : gt ρ i with
    | ol xs =>
      rw [eg] at h
      refine ⟨ρ, n, F, _, rel, h, fun v t n1 F1 H1 f1 s1 r1 q1 => ?_⟩
      have rel1 := rel.go f1 s1
      obtain ⟨a, vs, ei, es, h2, h3, h4, h5⟩ := own_get rel1 eg
      refine ⟨.ref a, es, ρ, n1, F1, _, rel1, q1, fun v2 t2 n2 F2 H2 f2 s2 r2 q2 => ?_⟩
      have k2 := f2.keep a _ h2 (by rw [h3]; intro z; cases z) (fun ps z => nomatch z)
      have k3 := f2.none h3 h2
      have k5 := h5.mono f2.le
      cases r2 with
      | int j =>
        obtain ⟨l, hl, q⟩ := q2
        refine ⟨a, vs, j, l, rfl, rfl, k2, by rw [k5.length]; exact hl, ?_⟩
        exact ok.nx _ n2 F2 σ _ (f1.le.trans f2.le) ((rel1.go f2 s2).updO (s1 := .ol (xs.set l t)) ei rfl rfl es k2 (plain_lst _) k3 h4 ⟨a, vs.set l v, rfl, upd_same, k3, h4, k5.set (r1.mono f2.le) l⟩) q
      | _ => exact q2.elim
    | _ => rw [eg] at h; exact h.elim
/-- y = x.pop(k) -/
def popK (i j : Nat) (D : VEnds) (ρ : List Sl) (xs : List Tr) : Tr → Nat → Prop
  | .int k, n => ∃ l t, (-(2 ^ 63) ≤ k ∧ k < 2 ^ 63) ∧ seqIndex? k xs.length = some l ∧ xs[l]? = some t ∧ D.nx n ((ρ.set i (.ol (xs.eraseIdx l))).set j (.v t))
  | _, _ => False
def popQ (i j : Nat) (D : VEnds) (ρ : List Sl) (k : RE) : Sl → Nat → Prop
  | .ol xs, n => k n ρ fun t n1 => popK i j D ρ xs t n1
  | _, _ => False
def vPop (i j : Nat) (k : RE) : RS := fun D n ρ => popQ i j D ρ k (gt ρ i) n
theorem vs_pop {j : Nat} {tk : RE} (h : PS X st (tAsg (tBM X.K "list" rPopAt (tVar i) (tCons (lE Γ tk) tNil)) (L2.gName j))) : PS X st (lS Γ (vPop i j tk)) :=
  PS.imp h fun D' σ H ⟨ρ, n, F, D, rel, h, ok⟩ => by
    have h : popQ i j D ρ tk (gt ρ i) n := h
    cases eg : gt ρ i with
    | ol xs =>
      rw [eg] at h
      obtain ⟨a, vs, ei, es, h2, h3, h4, h5⟩ := own_get rel eg
      refine ⟨.ref a, es, .inl ⟨rfl, vs, .inl (.inl h2)⟩, ρ, n, F, _, rel, h, fun v t n1 F1 H1 f1 s1 r1 q1 => ?_⟩
      have k2 := f1.keep a _ h2 (by rw [h3]; intro z; cases z) (fun ps z => nomatch z)
      have k3 := f1.none h3 h2
      have k5 := h5.mono f1.le
      cases r1 with
      | int k =>
        obtain ⟨l, t, hk, hl, ht, q⟩ := q1
        obtain ⟨w, hw, rw'⟩ := k5.get l ht
        refine ⟨a, vs, k, l, w, rfl, rfl, k2, hk.1, hk.2, by rw [k5.length]; exact hl, hw, ?_⟩
        exact ok.nx _ n1 F1 _ _ f1.le (((rel.go f1 s1).updO (s1 := .ol (xs.eraseIdx l)) ei rfl rfl es k2 (plain_lst _) k3 h4 ⟨a, vs.eraseIdx l, rfl, upd_same, k3, h4, k5.erase l⟩).set rw') q
      | _ => exact q1.elim
    | _ => rw [eg] at h; exact h.elim
/-- reading an owned list -/
def olQ (Q : List Tr → Prop) : Sl → Prop
  | .ol xs => Q xs
  | _ => False
def vLenO (i : Nat) : RE := fun n ρ Q => olQ (fun xs => Q (.int xs.length) n) (gt ρ i)
theorem ve_lenO (hK : X.K = Γ.g.K) (h : PE X e (tCB (fun xs H Q => ∃ p ys, xs = [.ref p] ∧ (SqL X.K H p ys ∨ SqT X.K H p ys) ∧ Q (.int ys.length) H) (tCons (tVar i) tNil))) : PE X e (lE Γ (vLenO i)) :=
  PE.imp h fun σ H Q' ⟨ρ, n, F, Q, rel, h, k⟩ => by
    have h : olQ (fun xs => Q (.int xs.length) n) (gt ρ i) := h
    cases eg : gt ρ i with
    | ol xs =>
      rw [eg] at h
      obtain ⟨a, vs, ei, es, h2, h3, h4, h5⟩ := own_get rel eg
      exact ⟨.ref a, es, a, vs, rfl, .inl (.inl (.inl h2)), k.here rel.sub (.int _) (by rw [h5.length]; exact h)⟩
    | _ => rw [eg] at h; exact h.elim
def ixQ (xs : List Tr) (Q : VQ) : Tr → Nat → Prop
  | .int j, n => ∃ t, atI xs j = some t ∧ Q t n
  | _, _ => False
theorem Reps.atI {g : Gb} {F : FH} {vs : List V} {ts : List Tr} {j : Int} {t : Tr} (r : Reps g F vs ts) (h : L2.atI ts j = some t) : ∃ v, L2.atI vs j = some v ∧ Rep g F v t := by
  unfold L2.atI at h ⊢
  rw [r.length]
  cases e : ixN ts.length j with
  | none => rw [e] at h; cases h
  | some l =>
    rw [e] at h
    exact r.get l h
def vIxO (i : Nat) (k : RE) : RE := fun n ρ Q => olQ (fun xs => k n ρ (ixQ xs Q)) (gt ρ i)
theorem ve_ixO {tk : RE} (h : PE X e (tOp (rIxL X.K) (tVar i) (lE Γ tk))) : PE X e (lE Γ (vIxO i tk)) :=
  PE.imp h fun σ H Q' ⟨ρ, n, F, Q, rel, h, k⟩ => by
    have h : olQ (fun xs => tk n ρ (ixQ xs Q)) (gt ρ i) := h
    cases eg : gt ρ i with
    | ol xs =>
      rw [eg] at h
      obtain ⟨a, vs, ei, es, h2, h3, h4, h5⟩ := own_get rel eg
      refine ⟨.ref a, es, ρ, n, F, _, rel, h, fun v t n1 F1 H1 f1 s1 r1 q1 => ?_⟩
      have k2 := f1.keep a _ h2 (by rw [h3]; intro z; cases z) (fun ps z => nomatch z)
      cases r1 with
      | int j =>
        obtain ⟨t, ht, q⟩ := q1
        obtain ⟨w, hw, rw'⟩ := (h5.mono f1.le).atI ht
        exact ⟨a, vs, j, w, rfl, rfl, .inl (.inl k2), hw, (k.go f1).here s1 rw' q⟩
      | _ => exact q1.elim
    | _ => rw [eg] at h; exact h.elim
def vTruO (i : Nat) : RT := fun n ρ Q => olQ (fun xs => Q (!xs.isEmpty) n) (gt ρ i)
theorem vt_truO (h : PT X e (fun σ H Q => tVar i σ H fun x H' => ∃ k, TruV X.K x H' k ∧ Q k H')) : PT X e (lT Γ (vTruO i)) :=
  PT.imp h fun σ H Q' ⟨ρ, n, F, Q, rel, h, k⟩ => by
    have h : olQ (fun xs => Q (!xs.isEmpty) n) (gt ρ i) := h
    cases eg : gt ρ i with
    | ol xs =>
      rw [eg] at h
      obtain ⟨a, vs, ei, es, h2, h3, h4, h5⟩ := own_get rel eg
      refine ⟨.ref a, es, !vs.isEmpty, .inl ⟨vs, .inl (.inl h2), rfl⟩, k _ n F H (Fr.refl _ _) rel.sub ?_⟩
      have : vs.isEmpty = xs.isEmpty := by cases h5 <;> rfl
      rw [this]
      exact h
    | _ => rw [eg] at h; exact h.elim
/-! ### self in __init__ -/
def fstQ (C : Addr) (i : Nat) (f : Str) (D : VEnds) (ρ : List Sl) (t : Tr) : Sl → Nat → Prop
  | .oi C' a dx fs, n => C' = C ∧ fs.length < 1000 ∧ D.nx n (ρ.set i (.oi C' a dx (putT f t fs)))
  | _, _ => False
def fsQ (C : Addr) (i : Nat) (f : Str) (D : VEnds) (ρ : List Sl) (e : RE) : Sl → Nat → Prop
  | .oi C' a dx fs, n => C' = C ∧ fs.length < 1000 ∧ e n ρ fun t n1 => D.nx n1 (ρ.set i (.oi C' a dx (putT f t fs)))
  | _, _ => False
/-- self.f = e -/
def vFldS (C : Addr) (i : Nat) (f : Str) (e : RE) : RS := fun D n ρ => fsQ C i f D ρ e (gt ρ i) n
theorem oi_get {n : Nat} {ρ : List Sl} {F : FH} {σ : L2.St} {H : Hp} (rel : Rel Γ n ρ F σ H) {C a dx : Addr} {fs : List (Str × Tr)} (eg : gt ρ i = .oi C a dx fs) : ∃ fvs, ρ[i]? = some (.oi C a dx fs) ∧ σ[i]? = some (some (.ref a)) ∧ H a = some (.ins C dx fvs) ∧ F a = none ∧ nt Γ.H0 a = none ∧ OwnC Γ.g.K C ∧ RepF Γ.g F fvs fs := by
  have ei := gt_get eg (fun z => nomatch z)
  obtain ⟨o, h1, fvs, e, h2, h3, h4, h5⟩ := rel.sl i _ ei
  subst e
  exact ⟨fvs, ei, h1, h2, h3, h4, h5⟩
theorem vs_fldS {C : Addr} {f : Str} (hK : X.K = Γ.g.K) (hn : NoAttr X.K C f) (h : PS X st (sFld X.K (tVar i) (lE Γ te) f)) : PS X st (lS Γ (vFldS C i f te)) :=
  PS.imp h fun D' σ H ⟨ρ, n, F, D, rel, h, ok⟩ => by
    have h : fsQ C i f D ρ te (gt ρ i) n := h
    cases eg : gt ρ i with
    | oi C' a dx fs =>
      rw [eg] at h
      obtain ⟨rfl, hl, h⟩ := h
      refine ⟨ρ, n, F, _, rel, h, fun v t n1 F1 H1 f1 s1 r1 q1 => ?_⟩
      have rel1 := rel.go f1 s1
      obtain ⟨fvs, ei, es, h2, h3, h4, h5, h6⟩ := oi_get rel1 eg
      refine ⟨.ref a, es, a, _, dx, fvs, rfl, h2, by rw [hK]; exact h5.cl, hn, by rw [h6.length]; exact hl, ?_⟩
      exact ok.nx _ n1 F1 σ _ f1.le (rel1.updO (s1 := .oi _ a dx (putT f t fs)) ei rfl rfl es h2 (plain_ins _ _ _) h3 h4 ⟨putF f v fvs, rfl, upd_same, h3, h4, h5, h6.put r1⟩) q1
    | _ => rw [eg] at h; exact h.elim
end
end VL
/-! built-ins and data -/
namespace VL
open PySem L2 DS PyProof.Rows
def vCB (r : VRL) (l : RA) : RE := fun n ρ Q => l n ρ fun ts n1 => r ts n1 Q
section
variable {X : Cx} {Γ : Cn} {st : Stmt} {rest : List Stmt} {e : Expr} {es : List Expr} {te ta tb : RE} {tl : RA} {pos p : Pos} {i : Nat} {x : Str} {id T : String} {r : VRL}
theorem cb_in {σ : L2.St} {H : Hp} {Q' : VK} (h : lE Γ (vCB r tl) σ H Q') : tCB (lC Γ r) (lA Γ tl) σ H Q' := by
  obtain ⟨ρ, n, F, Q, rel, h, k⟩ := h
  exact ⟨ρ, n, F, _, rel, h, fun vs ts n1 F1 H1 f1 s1 r1 q1 => ⟨n1, F1, ts, Q, rel.ok, rel.fr.trans f1, s1, r1, q1, k.go f1⟩⟩
theorem ve_callB (hc : CallR X (.builtin id) (lC Γ r)) (hg : Gl X x) (hm : X.mg x = none) (hv : bootBuiltins x = some (.builtin id)) (ha : PA X (e :: es) (lA Γ tl)) (hn : x ≠ "__name__" := by decide) (hdb : (x == ("__debug__" : Str)) = false := by decide)
    (he : starEach (e :: es) X.env = (false, eval e X.env) :: starEach es X.env := by rfl) (hpl : (backTo pos (starEach es X.env)).any (·.1) = false := by rfl) : PE X (.Call (.Name x p) (e :: es) [] pos) (lE Γ (vCB r tl)) :=
  PE.imp (pe_callB hc hg hm hv ha hn hdb he hpl) fun σ H Q' h => cb_in h
theorem ve_callTy (hc : CallR X (.type T) (lC Γ r)) (hg : Gl X x) (hm : X.mg x = none) (hv : bootBuiltins x = some (.type T)) (ha : PA X (e :: es) (lA Γ tl)) (hn : x ≠ "__name__" := by decide) (hdb : (x == ("__debug__" : Str)) = false := by decide)
    (he : starEach (e :: es) X.env = (false, eval e X.env) :: starEach es X.env := by rfl) (hpl : (backTo pos (starEach es X.env)).any (·.1) = false := by rfl) : PE X (.Call (.Name x p) (e :: es) [] pos) (lE Γ (vCB r tl)) :=
  PE.imp (pe_callTy hc hg hm hv ha hn hdb he hpl) fun σ H Q' h => cb_in h
theorem Reps.one {g : Gb} {F : FH} {vs : List V} {a : Tr} (r : Reps g F vs [a]) : ∃ v, vs = [v] ∧ Rep g F v a := by
  cases r with | cons r1 r => cases r with | nil => exact ⟨_, rfl, r1⟩
/-! ### ints -/
def cInt : VRL
  | [.int i], n, Q => Q (.int i) n
  | [.bl b], n, Q => Q (.int (if b then 1 else 0)) n
  | _, _, _ => False
theorem cv_int : CallR X (.type "int") (lC Γ cInt) := CallR.imp call_int1 fun xs H Q' ⟨n, F, ts, Q, ok, fr, s, r, q, k⟩ => by
  match ts, q, r with
  | [.int i], q, r =>
    obtain ⟨v, rfl, r1⟩ := r.one
    cases r1
    exact .inl ⟨i, rfl, k.here s (.int _) q⟩
  | [.bl b], q, r =>
    obtain ⟨v, rfl, r1⟩ := r.one
    cases r1
    exact .inr ⟨b, rfl, k.here s (.int _) q⟩
def cAbs : VRL
  | [.int i], n, Q => Q (.int (if i < 0 then -i else i)) n
  | _, _, _ => False
theorem cv_abs : CallR X (.builtin "abs") (lC Γ cAbs) := CallR.imp call_abs fun xs H Q' ⟨n, F, ts, Q, ok, fr, s, r, q, k⟩ => by
  match ts, q, r with
  | [.int i], q, r =>
    obtain ⟨v, rfl, r1⟩ := r.one
    cases r1
    exact ⟨i, rfl, k.here s (.int _) q⟩
def c2I (g : Int → Int → Int) : VRL
  | [.int i, .int j], n, Q => Q (.int (g i j)) n
  | _, _, _ => False
theorem cv_max2 (hc : X.calm = true) : CallR X (.builtin "max") (lC Γ (c2I fun i j => if j > i then j else i)) := CallR.imp (call_max2 hc) fun xs H Q' ⟨n, F, ts, Q, ok, fr, s, r, q, k⟩ => by
  match ts, q, r with
  | [.int i, .int j], q, r =>
    obtain ⟨v, w, rfl, r1, r2⟩ := r.two
    cases r1; cases r2
    exact ⟨i, j, rfl, k.here s (.int _) q⟩
theorem cv_min2 (hc : X.calm = true) : CallR X (.builtin "min") (lC Γ (c2I fun i j => if j < i then j else i)) := CallR.imp (call_min2 hc) fun xs H Q' ⟨n, F, ts, Q, ok, fr, s, r, q, k⟩ => by
  match ts, q, r with
  | [.int i, .int j], q, r =>
    obtain ⟨v, w, rfl, r1, r2⟩ := r.two
    cases r1; cases r2
    exact ⟨i, j, rfl, k.here s (.int _) q⟩
def cDivmod : VRL
  | [.int i, .int j], n, Q => CDivP i j ∧ Q (.tup [.int (i / j), .int (i % j)]) n
  | _, _, _ => False
theorem cv_divmod : CallR X (.builtin "divmod") (lC Γ cDivmod) := CallR.imp call_divmodW fun xs H Q' ⟨n, F, ts, Q, ok, fr, s, r, q, k⟩ => by
  match ts, q, r with
  | [.int i, .int j], q, r =>
    obtain ⟨v, w, rfl, r1, r2⟩ := r.two
    cases r1; cases r2
    refine ⟨i, j, rfl, q.1, fun p hp => ?_⟩
    obtain ⟨f2, s2⟩ := alloc (o := .tup [.int (i / j), .int (i % j)]) s hp
    exact k _ _ n _ _ f2 s2 (.tup (.inl (.inl (hp_eq.mpr updF_same))) (.cons (.int _) (.cons (.int _) .nil))) q.2
/-! ### sequences -/
def cLen : VRL
  | [.lst ts], n, Q => Q (.int ts.length) n
  | [.tup ts], n, Q => Q (.int ts.length) n
  | [.scr ns], n, Q => Q (.int ns.length) n
  | _, _, _ => False
theorem cv_len (hK : X.K = Γ.g.K) : CallR X (.builtin "len") (lC Γ cLen) := CallR.imp call_len_seq fun xs H Q' ⟨n, F, ts, Q, ok, fr, s, r, q, k⟩ => by
  match ts, q, r with
  | [.lst ts], q, r =>
    obtain ⟨v, rfl, r1⟩ := r.one
    cases r1 with
    | lst e r1 => exact ⟨_, _, rfl, .inl (.inl (.inl (s.at_ e))), k.here s (.int _) (by rw [r1.length]; exact q)⟩
  | [.tup ts], q, r =>
    obtain ⟨v, rfl, r1⟩ := r.one
    cases r1 with
    | tup e r1 => exact ⟨_, _, rfl, .inr (by rw [hK]; exact sqT_sub s e), k.here s (.int _) (by rw [r1.length]; exact q)⟩
  | [.scr ns], q, r =>
    obtain ⟨v, rfl, r1⟩ := r.one
    cases r1 with
    | scr e => exact ⟨_, _, rfl, .inl (by rw [hK]; exact sqL_same s.ob e), k.here s (.int _) (by rw [List.length_map]; exact q)⟩
def cLenS : VRL
  | [.str x], n, Q => x.length ≤ sizeLine ∧ Q (.int x.length) n
  | _, _, _ => False
theorem cv_lenS : CallR X (.builtin "len") (lC Γ cLenS) := CallR.imp call_len_str fun xs H Q' ⟨n, F, ts, Q, ok, fr, s, r, q, k⟩ => by
  match ts, q, r with
  | [.str x], q, r =>
    obtain ⟨v, rfl, r1⟩ := r.one
    cases r1
    exact ⟨x, rfl, q.1, k.here s (.int _) q.2⟩
def cList : VRL
  | [.lst ts], n, Q => Q (.lst ts) n
  | [.tup ts], n, Q => Q (.lst ts) n
  | _, _, _ => False
theorem cv_list (hK : X.K = Γ.g.K) : CallR X (.type "list") (lC Γ cList) := CallR.imp call_list_of fun xs H Q' ⟨n, F, ts, Q, ok, fr, s, r, q, k⟩ => by
  match ts, q, r with
  | [.lst ts], q, r =>
    obtain ⟨v, rfl, r1⟩ := r.one
    cases r1 with
    | lst e r1 =>
      refine ⟨_, _, rfl, .inl (.inl (.inl (s.at_ e))), fun l hl => ?_⟩
      obtain ⟨f2, s2⟩ := alloc (o := .lst _) s hl
      exact k _ _ n _ _ f2 s2 (.lst updF_same (r1.mono f2.le)) q
  | [.tup ts], q, r =>
    obtain ⟨v, rfl, r1⟩ := r.one
    cases r1 with
    | tup e r1 =>
      refine ⟨_, _, rfl, .inr (by rw [hK]; exact sqT_sub s e), fun l hl => ?_⟩
      obtain ⟨f2, s2⟩ := alloc (o := .lst _) s hl
      exact k _ _ n _ _ f2 s2 (.lst updF_same (r1.mono f2.le)) q
def cTuple : VRL
  | [.lst ts], n, Q => Q (.tup ts) n
  | [.tup ts], n, Q => Q (.tup ts) n
  | _, _, _ => False
theorem cv_tuple (hK : X.K = Γ.g.K) : CallR X (.type "tuple") (lC Γ cTuple) := CallR.imp call_tuple_of fun xs H Q' ⟨n, F, ts, Q, ok, fr, s, r, q, k⟩ => by
  match ts, q, r with
  | [.lst ts], q, r =>
    obtain ⟨v, rfl, r1⟩ := r.one
    cases r1 with
    | lst e r1 =>
      refine ⟨_, _, rfl, .inl ⟨.inl (.inl (s.at_ e)), fun l hl => ?_⟩⟩
      obtain ⟨f2, s2⟩ := alloc (o := .tup _) s hl
      exact k _ _ n _ _ f2 s2 (.tup (.inl (.inl (hp_eq.mpr updF_same))) (r1.mono f2.le)) q
  | [.tup ts], q, r =>
    obtain ⟨v, rfl, r1⟩ := r.one
    cases r1 with
    | tup e r1 => exact ⟨_, _, rfl, .inr ⟨by rw [hK]; exact sqT_sub s e, k.here s (.tup e r1) q⟩⟩
def cSum : VRL
  | [.lst ts], n, Q => ∃ ns : List Int, ts = ns.map Tr.int ∧ Q (.int ns.sum) n
  | _, _, _ => False
theorem cv_sum (hc : X.calm = true) : CallR X (.builtin "sum") (lC Γ cSum) := CallR.imp (cr_sum hc) fun xs H Q' ⟨n, F, ts, Q, ok, fr, s, r, q, k⟩ => by
  match ts, q, r with
  | [.lst ts], q, r =>
    obtain ⟨v, rfl, r1⟩ := r.one
    obtain ⟨ns, rfl, q⟩ := q
    cases r1 with
    | lst e r1 =>
      have e2 := r1.ints
      subst e2
      exact ⟨_, ns, rfl, .inl (.inl (s.at_ e)), k.here s (.int _) q⟩
def cAll : VRL
  | [.lst ts], n, Q => ∃ bs : List Bool, ts = bs.map Tr.bl ∧ Q (.bl (bs.all fun b => b)) n
  | _, _, _ => False
theorem cv_all (hc : X.calm = true) : CallR X (.builtin "all") (lC Γ cAll) := CallR.imp (cr_all hc) fun xs H Q' ⟨n, F, ts, Q, ok, fr, s, r, q, k⟩ => by
  match ts, q, r with
  | [.lst ts], q, r =>
    obtain ⟨v, rfl, r1⟩ := r.one
    obtain ⟨ns, rfl, q⟩ := q
    cases r1 with
    | lst e r1 =>
      have e2 := r1.bools
      subst e2
      exact ⟨_, ns, rfl, .inl (.inl (s.at_ e)), k.here s (.bl _) q⟩
def cAny : VRL
  | [.lst ts], n, Q => ∃ bs : List Bool, ts = bs.map Tr.bl ∧ Q (.bl (bs.any fun b => b)) n
  | _, _, _ => False
theorem cv_any (hc : X.calm = true) : CallR X (.builtin "any") (lC Γ cAny) := CallR.imp (cr_any hc) fun xs H Q' ⟨n, F, ts, Q, ok, fr, s, r, q, k⟩ => by
  match ts, q, r with
  | [.lst ts], q, r =>
    obtain ⟨v, rfl, r1⟩ := r.one
    obtain ⟨ns, rfl, q⟩ := q
    cases r1 with
    | lst e r1 =>
      have e2 := r1.bools
      subst e2
      exact ⟨_, ns, rfl, .inl (.inl (s.at_ e)), k.here s (.bl _) q⟩
def cSorted : VRL
  | [.lst ts], n, Q => ∃ ns : List Int, ts = ns.map Tr.int ∧ ∀ ns' : List Int, ns'.Perm ns → ns'.Pairwise (· ≤ ·) → Q (.lst (ns'.map Tr.int)) n
  | _, _, _ => False
theorem cv_sorted : CallR X (.builtin "sorted") (lC Γ cSorted) := CallR.imp cr_sortedI fun xs H Q' ⟨n, F, ts, Q, ok, fr, s, r, q, k⟩ => by
  match ts, q, r with
  | [.lst ts], q, r =>
    obtain ⟨v, rfl, r1⟩ := r.one
    obtain ⟨ns, rfl, q⟩ := q
    cases r1 with
    | lst e r1 =>
      have e2 := r1.ints
      subst e2
      refine ⟨_, ns, rfl, .inl (.inl (s.at_ e)), fun ns' p h1 h2 hp => ?_⟩
      obtain ⟨f2, s2⟩ := alloc (o := .lst (ns'.map V.int)) s hp
      exact k _ _ n _ _ f2 s2 (.lst updF_same (Reps.of_ints ns')) (q ns' h1 h2)
def cMaxL : VRL
  | [.lst ts], n, Q => ∃ ns : List Int, ts = ns.map Tr.int ∧ 0 < ns.length ∧ ∀ m, m ∈ ns → (∀ y ∈ ns, y ≤ m) → Q (.int m) n
  | _, _, _ => False
theorem cv_maxL (hc : X.calm = true) : CallR X (.builtin "max") (lC Γ cMaxL) := CallR.imp (cr_max hc) fun xs H Q' ⟨n, F, ts, Q, ok, fr, s, r, q, k⟩ => by
  match ts, q, r with
  | [.lst ts], q, r =>
    obtain ⟨v, rfl, r1⟩ := r.one
    obtain ⟨ns, rfl, h0, q⟩ := q
    cases r1 with
    | lst e r1 =>
      have e2 := r1.ints
      subst e2
      exact ⟨_, ns, rfl, .inl (.inl (s.at_ e)), h0, fun m h1 h2 => k.here s (.int _) (q m h1 h2)⟩
def cMinL : VRL
  | [.lst ts], n, Q => ∃ ns : List Int, ts = ns.map Tr.int ∧ 0 < ns.length ∧ ∀ m, m ∈ ns → (∀ y ∈ ns, m ≤ y) → Q (.int m) n
  | _, _, _ => False
theorem cv_minL (hc : X.calm = true) : CallR X (.builtin "min") (lC Γ cMinL) := CallR.imp (cr_min hc) fun xs H Q' ⟨n, F, ts, Q, ok, fr, s, r, q, k⟩ => by
  match ts, q, r with
  | [.lst ts], q, r =>
    obtain ⟨v, rfl, r1⟩ := r.one
    obtain ⟨ns, rfl, h0, q⟩ := q
    cases r1 with
    | lst e r1 =>
      have e2 := r1.ints
      subst e2
      exact ⟨_, ns, rfl, .inl (.inl (s.at_ e)), h0, fun m h1 h2 => k.here s (.int _) (q m h1 h2)⟩
/-! ### places, slices, sums of lists -/
def ixL : VR2
  | .lst ts, k, n, Q => ixQ ts Q k n
  | _, _, _, _ => False
def ixT : VR2
  | .tup ts, k, n, Q => ixQ ts Q k n
  | _, _, _, _ => False
theorem IxR.imp {r r' : R2} (h : IxR X r) (i : ∀ x y H Q, r' x y H Q → r x y H Q) : IxR X r' := fun a b pins s σ H x y v u Q I rx ry q z => h a b pins s σ H x y v u Q I rx ry (i _ _ _ _ q) z
theorem iv_list : IxR X (lR Γ ixL) := IxR.imp ix_list fun x y H Q' ⟨n, F, tx, ty, Q, ok, fr, s, rx, ry, q, k⟩ => by
  cases rx with
  | lst e r => cases ry with
    | int j =>
      obtain ⟨t, ht, q⟩ := q
      obtain ⟨w, hw, rw'⟩ := r.atI ht
      exact ⟨_, _, j, w, rfl, rfl, .inl (.inl (s.at_ e)), hw, k.here s rw' q⟩
    | _ => exact q.elim
  | _ => exact q.elim
theorem iv_tup (hK : X.K = Γ.g.K) : IxR X (lR Γ ixT) := IxR.imp ix_tup fun x y H Q' ⟨n, F, tx, ty, Q, ok, fr, s, rx, ry, q, k⟩ => by
  cases rx with
  | tup e r => cases ry with
    | int j =>
      obtain ⟨t, ht, q⟩ := q
      obtain ⟨w, hw, rw'⟩ := r.atI ht
      exact ⟨_, _, j, w, rfl, rfl, by rw [hK]; exact sqT_sub s e, hw, k.here s rw' q⟩
    | _ => exact q.elim
  | _ => exact q.elim
theorem ve_ix {a b : Expr} {r : VR2} (hr : IxR X (lR Γ r)) (ha : PE X a (lE Γ ta)) (hb : PE X b (lE Γ tb)) (hs : PlainIx b) : PE X (.Subscript a b pos) (lE Γ (vOp r ta tb)) :=
  PE.imp (pe_ix hr ha hb hs) fun σ H Q' ⟨ρ, n, F, Q, rel, h, k⟩ =>
    ⟨ρ, n, F, _, rel, h, fun v t n1 F1 H1 f1 s1 r1 q1 => ⟨ρ, n1, F1, _, rel.go f1 s1, q1, fun v2 t2 n2 F2 H2 f2 s2 r2 q2 => ⟨n2, F2, t, t2, Q, rel.ok, (rel.go f1 s1).fr.trans f2, s2, r1.mono f2.le, r2, q2, (k.go f1).go f2⟩⟩⟩
abbrev RO := Nat → List Sl → (Option Int → Nat → Prop) → Prop
def lO (Γ : Cn) (τ : RO) : TO := fun σ H Q' => ∃ ρ n F Q, Rel Γ n ρ F σ H ∧ τ n ρ Q ∧ ∀ o n' F' H', Fr F H F' H' → Sub Γ.g n' F' H' → Q o n' → Q' o H'
theorem PO.imp {e : Option Expr} {t t' : TO} (h : PO X e t) (i : ∀ σ H Q, t' σ H Q → t σ H Q) : PO X e t' := ⟨fun pins s σ H Q I q => h.run pins s σ H Q I (i _ _ _ q)⟩
def oNone : RO := fun n _ Q => Q none n
def oiQ2 (Q : Option Int → Nat → Prop) : Tr → Nat → Prop
  | .int i, n => Q (some i) n
  | _, _ => False
def oSome (e : RE) : RO := fun n ρ Q => e n ρ (oiQ2 Q)
theorem vo_none : PO X none (lO Γ oNone) := PO.imp po_none fun σ H Q' ⟨ρ, n, F, Q, rel, h, k⟩ => k none n F H (Fr.refl _ _) rel.sub h
theorem vo_some (he : PE X e (lE Γ te)) : PO X (some e) (lO Γ (oSome te)) := PO.imp (po_some he) fun σ H Q' ⟨ρ, n, F, Q, rel, h, k⟩ => ⟨ρ, n, F, _, rel, h, fun v t n1 F1 H1 f1 s1 r1 q1 => by
  cases r1 with
  | int i => exact ⟨i, rfl, k _ n1 F1 H1 f1 s1 q1⟩
  | _ => exact q1.elim⟩
def cutT (xs : List Tr) (lo hi : Option Int) : List Tr := (xs.drop (HT.sIx xs.length 0 lo)).take (HT.sIx xs.length xs.length hi - HT.sIx xs.length 0 lo)
theorem Reps.cut {g : Gb} {F : FH} {vs : List V} {ts : List Tr} (r : Reps g F vs ts) (lo hi : Option Int) : Reps g F (cutV vs lo hi) (cutT ts lo hi) := by
  unfold cutV cutT
  rw [r.length]
  exact (r.drop _).take _
def slQ (lo hi : Option Int) : Tr → Nat → VQ → Prop
  | .lst ts, n, Q => Q (.lst (cutT ts lo hi)) n
  | _, _, _ => False
def vSlL (e : RE) (lo hi : RO) : RE := fun n ρ Q => e n ρ fun t n1 => lo n1 ρ fun a n2 => hi n2 ρ fun b n3 => slQ a b t n3 Q
theorem ve_slL {lo hi : Option Expr} {tlo thi : RO} {p2 : Pos} (he : PE X e (lE Γ te)) (hl : PO X lo (lO Γ tlo)) (hu : PO X hi (lO Γ thi)) : PE X (.Subscript e (.Slice lo hi none p2) pos) (lE Γ (vSlL te tlo thi)) :=
  PE.imp (pe_slice sl_list he hl hu) fun σ H Q' ⟨ρ, n, F, Q, rel, h, k⟩ => ⟨ρ, n, F, _, rel, h, fun v t n1 F1 H1 f1 s1 r1 q1 => ⟨ρ, n1, F1, _, rel.go f1 s1, q1, fun a n2 F2 H2 f2 s2 q2 => ⟨ρ, n2, F2, _, (rel.go f1 s1).go f2 s2, q2, fun b n3 F3 H3 f3 s3 q3 => by
    have r3 := (r1.mono f2.le).mono f3.le
    cases r3 with
    | lst e r =>
      refine ⟨_, _, rfl, .inl (.inl (s3.at_ e)), fun p hp => ?_⟩
      obtain ⟨f4, s4⟩ := alloc (o := .lst (cutV _ a b)) s3 hp
      exact (((k.go f1).go f2).go f3) _ _ n3 _ _ f4 s4 (.lst updF_same ((r.cut a b).mono f4.le)) q3
    | _ => exact q3.elim⟩⟩⟩
def vCat : VR2
  | .lst xs, .lst ys, n, Q => xs.length + ys.length ≤ sizeLine ∧ Q (.lst (xs ++ ys)) n
  | _, _, _, _ => False
theorem ov_cat : OpR X (binaryOp .Add) (lR Γ vCat) := OpR.imp op_cat fun x y H Q' ⟨n, F, tx, ty, Q, ok, fr, s, rx, ry, q, k⟩ => by
  cases rx with
  | lst e r => cases ry with
    | lst e2 r2 =>
      refine ⟨_, _, _, _, rfl, rfl, s.at_ e, s.at_ e2, by rw [r.length, r2.length]; exact q.1, fun p hp => ?_⟩
      obtain ⟨f4, s4⟩ := alloc (o := .lst _) s hp
      exact k _ _ n _ _ f4 s4 (.lst updF_same ((r.append r2).mono f4.le)) q.2
    | _ => exact q.elim
  | _ => exact q.elim
/-! ### truth -/
def truT : Tr → Option Bool
  | .non => some false
  | .bl b => some b
  | .int i => some (i != 0)
  | .lst ts => some (!ts.isEmpty)
  | .tup ts => some (!ts.isEmpty)
  | _ => none
def truQ : Option Bool → Nat → (Bool → Nat → Prop) → Prop
  | some b, n, Q => Q b n
  | none, _, _ => False
def vTru (e : RE) : RT := fun n ρ Q => e n ρ fun t n1 => truQ (truT t) n1 Q
theorem tru_rep {g : Gb} {F : FH} {H : Hp} {n : Nat} {v : V} {t : Tr} {b : Bool} (s : Sub g n F H) (r : Rep g F v t) (h : truT t = some b) : TruV g.K v H b := by
  cases r with
  | non => cases h; rfl
  | bl b => cases h; rfl
  | int i => cases h; rfl
  | str x => cases h
  | tup e r =>
    cases h
    refine .inr (.inl ⟨_, sqT_sub s e, ?_⟩)
    cases r <;> rfl
  | lst e r =>
    cases h
    refine .inl ⟨_, .inl (.inl (s.at_ e)), ?_⟩
    cases r <;> rfl
  | _ => cases h
theorem vt_tru (hK : X.K = Γ.g.K) (he : PE X e (lE Γ te)) (hs : ∀ whole, isTrue e X.env whole = (do let v ← whole; standAt e.pos; holding [v] (truthy v)) := by intro _; rfl) : PT X e (lT Γ (vTru te)) :=
  PT.imp (pt_truth he hs) fun σ H Q' ⟨ρ, n, F, Q, rel, h, k⟩ => ⟨ρ, n, F, _, rel, h, fun v t n1 F1 H1 f1 s1 r1 q1 => by
    cases e : truT t with
    | none => rw [e] at q1; exact q1.elim
    | some b =>
      rw [e] at q1
      exact ⟨b, by rw [hK]; exact tru_rep s1 r1 e, k b n1 F1 H1 f1 s1 q1⟩⟩
/-! ### x += e -/
def augQ (i : Nat) (g : Int → Int → Int) (D : VEnds) (ρ : List Sl) (a : Int) : Tr → Nat → Prop
  | .int b, n => D.nx n (ρ.set i (.v (.int (g a b))))
  | _, _ => False
def augS (i : Nat) (g : Int → Int → Int) (D : VEnds) (ρ : List Sl) (e : RE) : Sl → Nat → Prop
  | .v (.int a), n => e n ρ (augQ i g D ρ a)
  | _, _ => False
def vAug (i : Nat) (g : Int → Int → Int) (e : RE) : RS := fun D n ρ => augS i g D ρ e (gt ρ i) n
theorem vs_aug {op : Operator} {g : Int → Int → Int} {pos' : Pos} (hN : X.N.Nodup) (hi : X.N[i]? = some x) (hx : Loc X.env.scope x) (he : PE X e (lE Γ te)) (ho : PIp X op (ipI g)) (hf : X.fn x = true ∨ X.env.scope.names.lookup x = some .local := by first | exact .inl rfl | exact .inr rfl | assumption) :
    PS X (.AugAssign (.Name x pos') op e pos) (lS Γ (vAug i g te)) := PS.imp (ps_aug hN hi hx he ho hf) fun D' σ H ⟨ρ, n, F, D, rel, h, ok⟩ => by
  have h : augS i g D ρ te (gt ρ i) n := h
  cases eg : gt ρ i with
  | v t =>
    rw [eg] at h
    cases t with
    | int a =>
      obtain ⟨o, h1, v, h2, r⟩ := rel.sl i _ (gt_get eg (fun z => nomatch z))
      subst h2
      cases r
      refine ⟨.int a, h1, ρ, n, F, _, rel, h, fun v t n1 F1 H1 f1 s1 r1 q1 => ?_⟩
      cases r1 with
      | int b => exact ⟨a, b, rfl, rfl, ok.nx _ n1 F1 _ H1 f1.le ((rel.go f1 s1).set (.int _)) q1⟩
      | _ => exact q1.elim
    | _ => exact h.elim
  | _ => rw [eg] at h; exact h.elim
end
end VL
/-! isinstance, == of data, in -/
namespace VL
open PySem L2 DS PyProof.Rows
inductive Bt where
  | int | bool | str | list | tuple | dict
def Bt.nm : Bt → String
  | .int => "int"
  | .bool => "bool"
  | .str => "str"
  | .list => "list"
  | .tuple => "tuple"
  | .dict => "dict"
/-- isinstance of a tree -/
def isBt (b : Bt) (t : Tr) : Option Bool := match t with
  | .opq _ => none
  | .scr _ => none
  | .int _ => some (match b with | .int => true | _ => false)
  | .bl _ => some (match b with | .int => true | .bool => true | _ => false)
  | .str _ => some (match b with | .str => true | _ => false)
  | .lst _ => some (match b with | .list => true | _ => false)
  | .tup _ => some (match b with | .tuple => true | _ => false)
  | .dct _ => some (match b with | .dict => true | _ => false)
  | .pen => some (match b with | .dict => true | _ => false)
  | .non => some false
  | .ins _ _ => some false
/-- the type of a tree -/
def tyT : Tr → Option Value
  | .non => some (.type "NoneType")
  | .bl _ => some (.type "bool")
  | .int _ => some (.type "int")
  | .str _ => some (.type "str")
  | .tup _ => some (.type "tuple")
  | .lst _ => some (.type "list")
  | .dct _ => some (.type "dict")
  | .pen => some (.type "dict")
  | .ins C _ => some (.ref C)
  | .opq _ => none
  | .scr _ => none
theorem ty_rep {g : Gb} {F : FH} {H : Hp} {n : Nat} {v : V} {t : Tr} {y : Value} (s : Sub g n F H) (r : Rep g F v t) (h : tyT t = some y) : TyX g.K H v y := by
  cases r with
  | non => cases h; exact .base .non
  | bl b => cases h; exact .base (.bl b)
  | int i => cases h; exact .base (.int i)
  | str x => cases h; exact .base (.str x)
  | tup e r =>
    cases h
    rcases sqT_sub s e with (q | ⟨o, q⟩) | ⟨o, its, m, q, c, _⟩
    · exact .base (.tup q)
    · exact .fTuple q
    · exact .kTuple q c
  | lst e r => cases h; exact .base (.lst (s.at_ e))
  | dct e r => cases h; exact .base (.dK (s.at_ e))
  | ins e c r => cases h; exact .base (.ins (s.at_ e) c.cl c.ha c.hn c.htk c.hm)
  | opq v => cases h
  | scr e => cases h
  | pen e =>
    cases h
    obtain ⟨c, ns, a, l, h1, _⟩ := (s.pen _ e).ex
    exact .base (.dK h1)
theorem isBt_kit {g : Gb} {F : FH} {H : Hp} {n : Nat} {v : V} {t : Tr} {b : Bt} {r : Bool} (s : Sub g n F H) (q : Rep g F v t) (h : isBt b t = some r) : ∃ y, TyX g.K H v y ∧ PySem.W.kitOne g.K y (.type b.nm) = some r := by
  have kk : ∀ {y : Value}, tyT t = some y → PySem.W.kitOne g.K y (.type b.nm) = some r → ∃ y, TyX g.K H v y ∧ PySem.W.kitOne g.K y (.type b.nm) = some r := fun e k => ⟨_, ty_rep s q e, k⟩
  cases q with
  | non => cases b <;> cases h <;> exact kk rfl (kit_ty (by decide +kernel))
  | bl x => cases b <;> cases h <;> exact kk rfl (kit_ty (by decide +kernel))
  | int x => cases b <;> cases h <;> exact kk rfl (kit_ty (by decide +kernel))
  | str x => cases b <;> cases h <;> exact kk rfl (kit_ty (by decide +kernel))
  | tup e r => cases b <;> cases h <;> exact kk rfl (kit_ty (by decide +kernel))
  | lst e r => cases b <;> cases h <;> exact kk rfl (kit_ty (by decide +kernel))
  | dct e r => cases b <;> cases h <;> exact kk rfl (kit_ty (by decide +kernel))
  | pen e => cases b <;> cases h <;> exact kk rfl (kit_ty (by decide +kernel))
  | opq v => cases b <;> cases h
  | scr v => cases b <;> cases h
  | ins e c r =>
    cases b <;> cases h
    · exact kk rfl c.ki
    · exact kk rfl c.kb
    · exact kk rfl c.ks
    · exact kk rfl c.kl
    · exact kk rfl c.kt
    · exact kk rfl c.kd
def isQ : Option Bool → Nat → VQ → Prop
  | some b, n, Q => Q (.bl b) n
  | none, _, _ => False
def cIsB (b : Bt) : VRL
  | [t, .opq (.ty s)], n, Q => s = b.nm ∧ isQ (isBt b t) n Q
  | _, _, _ => False
section
variable {X : Cx} {Γ : Cn} {e : Expr} {es : List Expr} {te ta tb : RE} {tl : RA} {pos p : Pos} {i : Nat} {x : Str}
theorem cv_isB (b : Bt) (hK : X.K = Γ.g.K) : CallR X (.builtin "isinstance") (lC Γ (cIsB b)) := CallR.imp call_isi fun xs H Q' ⟨n, F, ts, Q, ok, fr, s, r, q, k⟩ => by
  match ts, q, r with
  | [t, .opq (.ty sn)], q, r =>
    obtain ⟨v, w, rfl, r1, r2⟩ := r.two
    obtain ⟨rfl, q⟩ := q
    cases r2
    cases e : isBt b t with
    | none => rw [e] at q; exact q.elim
    | some z =>
      rw [e] at q
      obtain ⟨y, h1, h2⟩ := isBt_kit s r1 e
      exact ⟨v, .ty b.nm, y, _, z, rfl, .ty _, by rw [hK]; exact h1, by rw [hK]; exact h2, k.here s (.bl _) q⟩
/-- isinstance(x, C), C an own class -/
structure IsC (K : PySem.W.Frag) (C : Addr) : Prop where
  own : PySem.W.kitOne K (.ref C) (.ref C) = some true
  non : PySem.W.kitOne K (.type "NoneType") (.ref C) = some false
  bl : PySem.W.kitOne K (.type "bool") (.ref C) = some false
  int : PySem.W.kitOne K (.type "int") (.ref C) = some false
  str : PySem.W.kitOne K (.type "str") (.ref C) = some false
  tup : PySem.W.kitOne K (.type "tuple") (.ref C) = some false
  lst : PySem.W.kitOne K (.type "list") (.ref C) = some false
  dct : PySem.W.kitOne K (.type "dict") (.ref C) = some false
def isCQ (C : Addr) (Q : VQ) : Tr → Nat → Prop
  | .ins D _, n => D = C ∧ Q (.bl true) n
  | .opq _, _ => False
  | .scr _, _ => False
  | _, n => Q (.bl false) n
def cIsC (C : Addr) : VRL
  | [t, .opq (.ref D)], n, Q => D = C ∧ isCQ C Q t n
  | _, _, _ => False
theorem cv_isC {C : Addr} (hK : X.K = Γ.g.K) (ic : IsC Γ.g.K C) : CallR X (.builtin "isinstance") (lC Γ (cIsC C)) := CallR.imp call_isi fun xs H Q' ⟨n, F, ts, Q, ok, fr, s, r, q, k⟩ => by
  match ts, q, r with
  | [t, .opq (.ref D)], q, r =>
    obtain ⟨v, w, rfl, r1, r2⟩ := r.two
    obtain ⟨rfl, q⟩ := q
    cases r2
    have fin : ∀ {y : Value} {z : Bool}, tyT t = some y → PySem.W.kitOne Γ.g.K y (.ref D) = some z → Q (.bl z) n → rIsi X.K [v, .ref D] H Q' := fun {y z} h1 h2 q => ⟨v, .ref D, y, _, z, rfl, .own _, by rw [hK]; exact ty_rep s r1 h1, by rw [hK]; exact h2, k.here s (.bl _) q⟩
    cases t with
    | non => exact fin rfl ic.non q
    | bl b => exact fin rfl ic.bl q
    | int b => exact fin rfl ic.int q
    | str b => exact fin rfl ic.str q
    | tup b => exact fin rfl ic.tup q
    | lst b => exact fin rfl ic.lst q
    | dct b => exact fin rfl ic.dct q
    | pen => exact fin rfl ic.dct q
    | opq v => exact q.elim
    | scr v => exact q.elim
    | ins D2 fs =>
      obtain ⟨e3, q3⟩ := q
      subst e3
      exact fin rfl ic.own q3
/-- isinstance(x, (list, tuple)) -/
def isSeq : Tr → Option Bool
  | .lst _ => some true
  | .tup _ => some true
  | .opq _ => none
  | .scr _ => none
  | _ => some false
def vIsSeq (a : RE) : RE := fun n ρ Q => a n ρ fun t n1 => isQ (isSeq t) n1 Q
theorem ve_isSeq (hK : X.K = Γ.g.K) (he : PE X e (tCB (rIsiT X.K) (tCons (lE Γ te) (tCons (tTup (tCons (tC (.ty "list")) (tCons (tC (.ty "tuple")) tNil))) tNil)))) : PE X e (lE Γ (vIsSeq te)) :=
  PE.imp he fun σ H Q' ⟨ρ, n, F, Q, rel, h, k⟩ => ⟨ρ, n, F, _, rel, h, fun v t n1 F1 H1 f1 s1 r1 q1 => by
    refine ⟨Nat.le_of_ble_eq_true rfl, fun p hp => ?_⟩
    obtain ⟨f2, s2⟩ := alloc (o := .tup [.ty "list", .ty "tuple"]) s1 hp
    have r2 := r1.mono f2.le
    have fin : ∀ {y : Value} {z : Bool}, tyT t = some y → PySem.W.kitAny Γ.g.K y [.type "list", .type "tuple"] = some z → Q (.bl z) n1 → rIsiT X.K [v, .ref p] (upd H1 p (.tup [.ty "list", .ty "tuple"])) Q' := fun {y z} h1 h2 q => ⟨v, p, _, y, _, z, rfl, upd_same, .cons (.ty _) (.cons (.ty _) .nil), by rw [hK]; exact ty_rep s2 r2 h1, by rw [hK]; exact h2, (k.go f1) _ _ n1 _ _ f2 s2 (.bl _) q⟩
    have two : ∀ {a : String} {z1 z2 : Bool}, kitB a "list" = some z1 → kitB a "tuple" = some z2 → PySem.W.kitAny Γ.g.K (.type a) [.type "list", .type "tuple"] = some (z1 || z2) := fun {a z1 z2} h1 h2 => by
      refine kitAny_cons (b := z1) (kit_ty h1) (fun z => ?_) (fun z => by rw [z]; rfl)
      subst z
      exact kitAny_cons (b := z2) (kit_ty h2) (fun z => by subst z; rfl) (fun z => by rw [z]; rfl)
    cases t with
    | non => exact fin rfl (two (z1 := false) (z2 := false) (by decide +kernel) (by decide +kernel)) q1
    | bl b => exact fin rfl (two (z1 := false) (z2 := false) (by decide +kernel) (by decide +kernel)) q1
    | int b => exact fin rfl (two (z1 := false) (z2 := false) (by decide +kernel) (by decide +kernel)) q1
    | str b => exact fin rfl (two (z1 := false) (z2 := false) (by decide +kernel) (by decide +kernel)) q1
    | tup b => exact fin rfl (two (z1 := false) (z2 := true) (by decide +kernel) (by decide +kernel)) q1
    | lst b => exact fin rfl (two (z1 := true) (z2 := false) (by decide +kernel) (by decide +kernel)) q1
    | dct b => exact fin rfl (two (z1 := false) (z2 := false) (by decide +kernel) (by decide +kernel)) q1
    | pen => exact fin rfl (two (z1 := false) (z2 := false) (by decide +kernel) (by decide +kernel)) q1
    | opq v => exact q1.elim
    | scr v => exact q1.elim
    | ins C fs =>
      cases r1 with
      | ins e c r =>
        refine fin rfl (z := false) ?_ q1
        exact kitAny_cons c.kl (fun _ => kitAny_cons c.kt (fun _ => rfl) (fun z => nomatch z)) (fun z => nomatch z)⟩
/-! ### == of data -/
mutual
def toD : Tr → PyData
  | .non => .none
  | .bl b => .bool b
  | .int i => .int i
  | .str x => .str x
  | .tup ts => .tuple (toDs ts)
  | .lst ts => .list (toDs ts)
  | .dct _ => .none
  | .ins _ _ => .none
  | .opq _ => .none
  | .pen => .none
  | .scr _ => .none
def toDs : List Tr → List PyData
  | [] => []
  | t :: ts => toD t :: toDs ts
end
mutual
def isD : Tr → Bool
  | .non => true
  | .bl _ => true
  | .int _ => true
  | .str _ => true
  | .tup ts => isDs ts
  | .lst ts => isDs ts
  | .dct _ => false
  | .ins _ _ => false
  | .opq _ => false
  | .pen => false
  | .scr _ => false
def isDs : List Tr → Bool
  | [] => true
  | t :: ts => isD t && isDs ts
end
mutual
theorem dp_rep {g : Gb} {F : FH} {H : Hp} {n : Nat} (s : Sub g n F H) : ∀ {v : V} {t : Tr}, Rep g F v t → isD t = true → Dp g.K H v (toD t)
  | _, _, .non, _ => .non
  | _, _, .bl b, _ => .bl b
  | _, _, .int i, _ => .int i
  | _, _, .str x, _ => .str x
  | _, _, .tup e r, h => .tup (sqT_sub s e) (dp_reps s r h)
  | _, _, .lst e r, h => .lst (.inl (.inl (s.at_ e))) (dp_reps s r h)
  | _, _, .dct e r, h => Bool.noConfusion (show false = true from h)
  | _, _, .ins e c r, h => Bool.noConfusion (show false = true from h)
  | _, _, .opq v, h => Bool.noConfusion (show false = true from h)
  | _, _, .pen e, h => Bool.noConfusion (show false = true from h)
  | _, _, .scr e, h => Bool.noConfusion (show false = true from h)
theorem dp_reps {g : Gb} {F : FH} {H : Hp} {n : Nat} (s : Sub g n F H) : ∀ {vs : List V} {ts : List Tr}, Reps g F vs ts → isDs ts = true → DpAll g.K H vs (toDs ts)
  | _, _, .nil, _ => .nil
  | _, _, .cons r rs, h => by
    have h := (Bool.and_eq_true_iff (x := isD _) (y := isDs _)).mp h
    exact .cons (dp_rep s r h.1) (dp_reps s rs h.2)
end
def okD (t : Tr) : Prop := isD t = true ∧ SeqAt.shaped (toD t) = true
def eqT (t u : Tr) : Bool := PyData.eqv (toD t) (toD u)
def vEqD (neg : Bool) : VR2 := fun t u n Q => okD t ∧ okD u ∧ Q (.bl (if neg then !eqT t u else eqT t u)) n
theorem ov_eqD (hK : X.K = Γ.g.K) (hu : X.A.units + 64 < cLine) : OpR X (compareOp .Eq) (lR Γ (vEqD false)) := OpR.imp (op_eqD hu) fun x y H Q' ⟨n, F, tx, ty, Q, ok, fr, s, rx, ry, q, k⟩ =>
  ⟨_, _, by rw [hK]; exact dp_rep s rx q.1.1, by rw [hK]; exact dp_rep s ry q.2.1.1, q.1.2, q.2.1.2, k.here s (.bl _) q.2.2⟩
theorem ov_neD (hK : X.K = Γ.g.K) (hu : X.A.units + 64 < cLine) : OpR X (compareOp .NotEq) (lR Γ (vEqD true)) := OpR.imp (op_neD hu) fun x y H Q' ⟨n, F, tx, ty, Q, ok, fr, s, rx, ry, q, k⟩ =>
  ⟨_, _, by rw [hK]; exact dp_rep s rx q.1.1, by rw [hK]; exact dp_rep s ry q.2.1.1, q.1.2, q.2.1.2, k.here s (.bl _) q.2.2⟩
/-! ### in -/
def inSQ (neg : Bool) (x : Str) (ts : List Tr) (n : Nat) (Q : VQ) : Prop := ∃ l : List Str, ts = l.map Tr.str ∧ Q (.bl (if neg then !decide (x ∈ l) else decide (x ∈ l))) n
def vIn (neg : Bool) : VR2
  | .str x, .tup ts, n, Q => inSQ neg x ts n Q
  | .str x, .lst ts, n, Q => inSQ neg x ts n Q
  | _, _, _, _ => False
theorem ov_in (hK : X.K = Γ.g.K) : OpR X (compareOp .In) (lR Γ (vIn false)) := OpR.imp op_in_seq fun x y H Q' ⟨n, F, tx, ty, Q, ok, fr, s, rx, ry, q, k⟩ => by
  cases rx with
  | str x => cases ry with
    | tup e r =>
      obtain ⟨l, rfl, q⟩ := q
      have e2 := r.strs
      subst e2
      refine ⟨_, _, rfl, .inr (by rw [hK]; exact sqT_sub s e), rfl, flat_strs l, k.here s (.bl _) ?_⟩
      rw [if_neg Bool.false_ne_true, inV_strs]
      exact q
    | lst e r =>
      obtain ⟨l, rfl, q⟩ := q
      have e2 := r.strs
      subst e2
      refine ⟨_, _, rfl, .inl (.inl (.inl (s.at_ e))), rfl, flat_strs l, k.here s (.bl _) ?_⟩
      rw [if_neg Bool.false_ne_true, inV_strs]
      exact q
    | _ => exact q.elim
  | _ => exact q.elim
theorem ov_notIn (hK : X.K = Γ.g.K) : OpR X (compareOp .NotIn) (lR Γ (vIn true)) := OpR.imp op_notIn_seq fun x y H Q' ⟨n, F, tx, ty, Q, ok, fr, s, rx, ry, q, k⟩ => by
  cases rx with
  | str x => cases ry with
    | tup e r =>
      obtain ⟨l, rfl, q⟩ := q
      have e2 := r.strs
      subst e2
      refine ⟨_, _, rfl, .inr (by rw [hK]; exact sqT_sub s e), rfl, flat_strs l, k.here s (.bl _) ?_⟩
      rw [if_pos rfl, inV_strs]
      exact q
    | lst e r =>
      obtain ⟨l, rfl, q⟩ := q
      have e2 := r.strs
      subst e2
      refine ⟨_, _, rfl, .inl (.inl (.inl (s.at_ e))), rfl, flat_strs l, k.here s (.bl _) ?_⟩
      rw [if_pos rfl, inV_strs]
      exact q
    | _ => exact q.elim
  | _ => exact q.elim
end
/-! ### pens -/
theorem FnOk.cx {P : Program} {w : World} {K : PySem.W.Frag} {mg : Str → Option Value} {base : Heap} {CX : CXT} {k : Nat} {f : Addr} {fd : FuncData} {ps : List Str} {sp : Sp} (F : FnOk P w K mg base CX0 k f fd ps sp) : FnOk P w K mg base CX k f fd ps sp :=
  ⟨F.len, fun A outer s H args us vs Q E hr e0 hb r hs => codeAny_mono (F.run A outer s H args us vs Q E hr e0 hb r hs) fun r s' h => by
    cases r with
    | error e => exact h.elim
    | ok fl => cases fl <;> exact h⟩
end VL
/-! pens, the law's end, small words -/
namespace VL
open PySem L2 DS PyProof.Rows
theorem vpv {X : Cx} {Γ : Cn} (i : Nat) {x : Str} {pos : Pos} (hN : X.N[i]? = some x := by rfl) (hv : Vis X.env.scope x := by first | exact Or.inl rfl | exact Or.inr (Or.inl rfl) | exact Or.inr (Or.inr rfl)) (hd : (x == ("__debug__" : Str)) = false := by decide) (hcd : (x == ("__classdict__" : Str)) = false := by decide) : PE X (.Name x pos) (lE Γ (vVar i)) := ve_var hN hv hd hcd
/-- self.a, self.b = e -/
def self2P (C : Addr) (i : Nat) (a b : Str) (D : VEnds) (ρ : List Sl) (c x dx : Addr) (fs : List (Str × Tr)) : Tr → Nat → Prop
  | .tup [t, u], n => D.nx n (ρ.set i (.oi c x dx (putT b u (putT a t fs))))
  | _, _ => False
def self2Q (C : Addr) (i : Nat) (a b : Str) (D : VEnds) (ρ : List Sl) (e : RE) : Sl → Nat → Prop
  | .oi C' x dx fs, n => C' = C ∧ fs.length < 999 ∧ e n ρ (self2P C i a b D ρ C' x dx fs)
  | _, _ => False
def vSelf2 (C : Addr) (i : Nat) (a b : Str) (e : RE) : RS := fun D n ρ => self2Q C i a b D ρ e (gt ρ i) n
theorem putT_len (f : Str) (t : Tr) : ∀ fs : List (Str × Tr), (putT f t fs).length ≤ fs.length + 1
  | [] => Nat.le_refl _
  | (x, u) :: r => by
    show (if x = f then (x, t) :: r else (x, u) :: putT f t r).length ≤ r.length + 1 + 1
    split
    · show r.length + 1 ≤ _; omega
    · show (putT f t r).length + 1 ≤ _
      have := putT_len f t r
      omega
theorem set_same {α : Type} : ∀ {l : List α} {i : Nat} {x : α}, l[i]? = some x → l.set i x = l
  | [], _, _, h => rfl
  | _ :: _, 0, _, h => by cases h; rfl
  | _ :: r, i + 1, x, h => by
    show _ :: r.set i x = _
    rw [set_same (l := r) (by simpa using h)]
theorem vs_self2 {X : Cx} {Γ : Cn} {st : Stmt} {te : RE} {i : Nat} {C : Addr} {a b : Str} (hK : X.K = Γ.g.K) (hna : NoAttr X.K C a) (hnb : NoAttr X.K C b) (h : PS X st (tAsg (lE Γ te) (L2.gTup X.K 2 (L2.gCons (gFld X.K (tVar i) a) (L2.gCons (gFld X.K (tVar i) b) L2.gNil))))) : PS X st (lS Γ (vSelf2 C i a b te)) :=
  PS.imp h fun D' σ H ⟨ρ, n, F, D, rel, h, ok⟩ => by
    have h : self2Q C i a b D ρ te (gt ρ i) n := h
    cases eg : gt ρ i with
    | oi C' x dx fs =>
      rw [eg] at h
      obtain ⟨rfl, hl, h⟩ := h
      refine ⟨ρ, n, F, _, rel, h, fun v t n1 F1 H1 f1 s1 r1 q1 => ?_⟩
      have rel1 := rel.go f1 s1
      obtain ⟨fvs, ei, es, h2, h3, h4, h5, h6⟩ := oi_get rel1 eg
      cases r1 with
      | tup e r =>
        rename_i ad vs ts
        match ts, q1, r with
        | [t, u], q1, r =>
          obtain ⟨v, w, rfl, r1, r2⟩ := r.two
          refine ⟨ad, [v, w], rfl, by rw [hK]; exact sqT_sub s1 e, rfl, ?_⟩
          have k1 := rel1.updO (s1 := .oi C' x dx (putT a t fs)) ei rfl rfl es h2 (plain_ins _ _ _) h3 h4 ⟨putF a v fvs, rfl, upd_same, h3, h4, h5, h6.put r1⟩
          have g1 : (ρ.set i (.oi C' x dx (putT a t fs)))[i]? = some (.oi C' x dx (putT a t fs)) := by
            rw [List.getElem?_set, if_pos rfl, if_pos (List.getElem?_eq_some_iff.mp ei).1]
          have k2 := k1.updO (s1 := .oi C' x dx (putT b u (putT a t fs))) g1 rfl rfl es upd_same (plain_ins _ _ _) h3 h4 ⟨putF b w (putF a v fvs), rfl, upd_same, h3, h4, h5, (h6.put r1).put r2⟩
          rw [List.set_set] at k2
          have lf := h6.length
          have lp := putF_len a v fvs
          exact ⟨v, [w], rfl, .ref x, es, x, C', dx, fvs, rfl, h2, by rw [hK]; exact h5.cl, hna, by omega, w, [], rfl, .ref x, es, x, C', dx, _, rfl, upd_same, by rw [hK]; exact h5.cl, hnb, by omega, rfl, ok.nx _ n1 F1 σ _ f1.le k2 q1⟩
      | _ => exact q1.elim
    | _ => rw [eg] at h; exact h.elim
/-! ### draws -/
def ButV (d : Addr) (H H' : Hp) : Prop := ∀ b o, b ≠ d → H b = some o → H' b = some o
theorem ButV.refl (d : Addr) (H : Hp) : ButV d H H := fun _ _ _ h => h
theorem ButV.trans {d : Addr} {H H1 H2 : Hp} (a : ButV d H H1) (b : ButV d H1 H2) : ButV d H H2 := fun c o n h => b c o n (a c o n h)
theorem ButV.same {d : Addr} {H H1 H2 : Hp} (a : ButV d H H1) (b : Same H1 H2) : ButV d H H2 := fun c o n h => b c o (a c o n h)
theorem ButV.upd {d : Addr} {H : Hp} {o : HO} : ButV d H (L2.upd H d o) := fun b u n h => by rw [upd_ne n]; exact h
/-- a pen has been drawn from -/
theorem pen_end {g : Gb} {F : FH} {H H' : Hp} {d c : Addr} {n : Nat} {ns : List Int} {a l : Int} {Q : VQ} {Q' : VK} {v : V} {t : Tr} (k : Then g F H Q Q') (s : Sub g n F H) (hd : F d = some .pen) (bt : ButV d H H') (e : H' d = some (.dK (pend g.pk c a l))) (hc : F c = some (.ob (.lst (ns.map V.int)))) (a0 : 0 ≤ a) (a1 : a ≤ ((n + 1 : Nat) : Int)) (l0 : 0 ≤ l) (hl : ns.length ≤ 63) (hz : g.pz = true → 0 < ns.length) (r : Rep g F v t) (q : Q t (n + 1)) : Q' v H' := by
  have nd : ∀ {b : Addr} {o : HO}, F b = some (.ob o) → b ≠ d := fun {b o} h z => by rw [z, hd] at h; cases h
  refine k v t (n + 1) F H' ⟨le.refl _, fun a h => .inl h, fun b o h np _ => bt b o (fun z => np (by rw [z]; exact hd)) h, fun b h => ?_⟩ ⟨fun b o h => bt b o (nd (hp_eq.mp h)) (s.ob b o h), fun b h => ?_, fun p hp => ?_, s.nt⟩ r q
  · by_cases z : b = d
    · rw [z, nt_some e (fun _ z => nomatch z)]; intro w; cases w
    · cases q : nt H b with
      | none => exact absurd q h
      | some o =>
        obtain ⟨q1, q2⟩ := nt_get q
        rw [nt_some (bt b o z q1) q2]; intro w; cases w
  · by_cases z : b = d
    · subst z
      exact ⟨c, ns, a, l, e, hc, a0, a1, l0, hl, hz⟩
    · obtain ⟨c', ns', a', l', h1, h2, h3, h4, h5⟩ := (s.pen b h).ex
      exact ⟨c', ns', a', l', bt b _ z h1, h2, h3, by omega, h5⟩
  · obtain ⟨ps, h1, h2, h3⟩ := s.tab p hp
    obtain ⟨c', ns', a', l', g1, _⟩ := (s.pen d hd).ex
    refine ⟨ps, bt _ _ (ne_of h1 g1 (by intro z; cases z)) h1, h2, fun pos cv hc => ?_⟩
    obtain ⟨c2, e1, e2⟩ := h3 pos cv hc
    exact ⟨c2, e1, bt _ _ (ne_of e2 g1 (by intro z; cases z)) e2⟩
/-- draw(pen, many): a number below many -/
def vdraw : VSp
  | [.pen, .int m], n, Q, _ => 0 < m ∧ m < 2 ^ 200 ∧ n ≤ 1000000 ∧ ∀ d, 0 ≤ d → d < m → Q (.int d) (n + 1)
  | _, _, _, _ => False
/-- pick(pen, list) -/
def vpick : VSp
  | [.pen, .lst ts], n, Q, _ => 0 < ts.length ∧ ts.length ≤ 1000 ∧ n ≤ 1000000 ∧ ∀ t ∈ ts, Q t (n + 1)
  | _, _, _, _ => False
/-- a pen of a script -/
def vbegin : VSp
  | [.scr ns], n, Q, _ => ns.length ≤ 63 ∧ Q .pen n
  | _, _, _, _ => False
/-- ten to a power -/
def vten : VSp
  | [.int i], n, Q, _ => ∃ k : Nat, i = k ∧ k ≤ 600 ∧ Q (.int (10 ^ k)) n
  | _, _, _, _ => False
theorem begin_end {g : Gb} {F : FH} {H H1 H2 : Hp} {p c : Addr} {n : Nat} {ns : List Int} {Q : VQ} {Q' : VK} (k : Then g F H Q Q') (s : Sub g n F H) (hp : H p = none) (hc : H c = none) (ne : p ≠ c) (sm : Same H H2) (e : H2 p = some (.dK (pend g.pk c 0 0))) (ec : H2 c = some (.lst (ns.map V.int))) (hl : ns.length ≤ 63) (hz : g.pz = true → 0 < ns.length) (q : Q .pen n) : Q' (.ref p) H2 := by
  have fp := s.free hp
  have fc := s.free hc
  have l1 : le F (updF (updF F c (.ob (.lst (ns.map V.int)))) p .pen) := (le_updF fc).trans (le_updF (by rw [updF_ne ne]; exact fp))
  refine k (.ref p) .pen n (updF (updF F c (.ob (.lst (ns.map V.int)))) p .pen) H2 ⟨l1, fun a h => ?_, fun a o h _ _ => sm a o h, fun a h => ?_⟩ ⟨fun a o h => ?_, fun a h => ?_, s.tab.ext sm, fun a ps h => ?_⟩ (.pen updF_same) q
  · by_cases z : a = p
    · exact .inr (by rw [z]; exact nt_none hp)
    · rw [updF_ne z] at h
      by_cases w : a = c
      · exact .inr (by rw [w]; exact nt_none hc)
      · rw [updF_ne w] at h; exact .inl h
  · cases q : nt H a with
    | none => exact absurd q h
    | some o =>
      obtain ⟨q1, q2⟩ := nt_get q
      rw [nt_some (sm a o q1) q2]; intro w; cases w
  · have h := hp_eq.mp h
    have z : a ≠ p := fun z => by rw [z, updF_same] at h; cases h
    rw [updF_ne z] at h
    by_cases w : a = c
    · subst w
      rw [updF_same] at h
      cases h
      exact ec
    · rw [updF_ne w] at h
      exact sm _ _ (s.at_ h)
  · by_cases z : a = p
    · subst z
      refine ⟨c, ns, 0, 0, e, ?_, Int.le_refl _, Int.natCast_nonneg _, Int.le_refl _, hl, hz⟩
      rw [updF_ne (Ne.symm ne), updF_same]
    · rw [updF_ne z] at h
      have w : a ≠ c := fun w => by rw [w, updF_same] at h; cases h
      rw [updF_ne w] at h
      obtain ⟨c', ns', a', l', h1, h2, h3⟩ := (s.pen a h).ex
      exact ⟨c', ns', a', l', sm _ _ h1, l1 _ _ h2, h3⟩
  · by_cases z : a = p
    · subst z; rw [updF_same] at h; cases h
    · rw [updF_ne z] at h
      by_cases w : a = c
      · subst w; rw [updF_same] at h; cases h
      · rw [updF_ne w] at h; exact s.nt a ps h
/-! ### the law's end -/
def vlaw : VSp
  | [.scr ns], n, Q, _ => ns.length ≤ 63 ∧ n = 0 ∧ ∀ n', Q (.bl true) n'
  | _, _, _, _ => False
def spLaw (K : PySem.W.Frag) : Sp := fun vs H Q _ => ∃ (a : Addr) (ns : List Int), vs = [.ref a] ∧ SqL K H a (ns.map V.int) ∧ ns.length ≤ 63 ∧ ∀ H', Q (.bl true) H'
theorem law_end {P : Program} {w : World} {K : PySem.W.Frag} {mg : Str → Option Value} {base : Heap} {k : Nat} {f : Addr} {fd : FuncData} {ps : List Str} {pk : Str × Str × Str} {pz : Bool} (F : FnOk P w K mg base (L2.CX P w) k f fd ps (lSp ⟨K, [], pk, pz⟩ 1 vlaw)) : FnOk P w K mg base CX0 k f fd ps (spLaw K) := by
  have key : ∀ vs H Q E, spLaw K vs H Q E → lSp ⟨K, [], pk, pz⟩ 1 vlaw vs H Q (fun _ _ _ => False) := fun vs H Q E ⟨a, ns, e, sq, hl, q⟩ => by
    subst e
    have fin : ∀ F0 : FH, Sub ⟨K, [], pk, pz⟩ 0 F0 H → SqL K (hp F0) a (ns.map V.int) → lSp ⟨K, [], pk, pz⟩ 1 vlaw [.ref a] H Q (fun _ _ _ => False) := fun F0 s sq =>
      ⟨0, F0, [.scr ns], fun t _ => t = .bl true, fun _ _ _ => False, rfl, s, .cons (.scr sq) .nil, ⟨hl, rfl, fun _ => rfl⟩, fun v t n' F' H' f' s' r' q' => by
        subst q'
        cases r'
        exact q H', fun _ _ _ _ _ _ _ _ _ _ _ z => z⟩
    have one : ∀ o, H a = some o → (∀ ps, o ≠ .tbl ps) → Sub ⟨K, [], pk, pz⟩ 0 (updF (fun _ => none) a (.ob o)) H := fun o e no => by
      refine ⟨fun b u h => ?_, fun b h => ?_, (fun p hp => nomatch hp), fun b ps h => ?_⟩
      · have h := hp_eq.mp h
        by_cases z : b = a
        · subst z; rw [updF_same] at h; cases h; exact e
        · rw [updF_ne z] at h; cases h
      · by_cases z : b = a
        · subst z; rw [updF_same] at h; cases h
        · rw [updF_ne z] at h; cases h
      · by_cases z : b = a
        · subst z; rw [updF_same] at h; cases h; exact no _ rfl
        · rw [updF_ne z] at h; cases h
    rcases sq with (sq | ⟨o, sq⟩) | sq
    · exact fin _ (one _ sq (fun _ z => nomatch z)) (.inl (.inl (hp_eq.mpr updF_same)))
    · exact fin _ (one _ sq (fun _ z => nomatch z)) (.inl (.inr ⟨o, hp_eq.mpr updF_same⟩))
    · refine fin (fun _ => none) ⟨fun b u h => ?_, fun b h => ?_, (fun p hp => nomatch hp), fun b ps h => ?_⟩ (.inr sq)
      · have h := hp_eq.mp h
        cases h
      · cases h
      · cases h
  refine ⟨fun vs H Q E h => F.len _ _ _ _ (key _ _ _ _ h), fun A outer s H args us vs Q E hr e0 hb r hs => codeAny_mono (F.run A outer s H args us vs Q _ hr e0 hb r (key _ _ _ _ hs)) fun r s' h => ?_⟩
  cases r with
  | error e =>
    obtain ⟨_, _, _, _, _, _, _, _, _, _, _, _, z⟩ := h
    exact z.elim
  | ok fl => cases fl <;> exact h
end VL
/-! words for walking at trees -/
namespace VL
open PySem L2 DS
section
variable {t u : RE} {c d : RT} {a b : RS} {n : Nat} {ρ : List Sl} {Q : VQ} {R : Bool → Nat → Prop} {D : VEnds} {p : Prop} [Decidable p] {k : Bool}
theorem brE_true : brE true t u n ρ Q = t n ρ Q := rfl
theorem brE_false : brE false t u n ρ Q = u n ρ Q := rfl
theorem brT_true : brT true c d n ρ R = c n ρ R := rfl
theorem brT_false : brT false c d n ρ R = d n ρ R := rfl
theorem brS_true : brS true a b D n ρ = a D n ρ := rfl
theorem brS_false : brS false a b D n ρ = b D n ρ := rfl
theorem brE_d (h1 : p → t n ρ Q) (h2 : ¬ p → u n ρ Q) : brE (decide p) t u n ρ Q := by
  by_cases h : p
  · rw [decide_eq_true h]; exact h1 h
  · rw [decide_eq_false h]; exact h2 h
theorem brT_d (h1 : p → c n ρ R) (h2 : ¬ p → d n ρ R) : brT (decide p) c d n ρ R := by
  by_cases h : p
  · rw [decide_eq_true h]; exact h1 h
  · rw [decide_eq_false h]; exact h2 h
theorem brS_d (h1 : p → a D n ρ) (h2 : ¬ p → b D n ρ) : brS (decide p) a b D n ρ := by
  by_cases h : p
  · rw [decide_eq_true h]; exact h1 h
  · rw [decide_eq_false h]; exact h2 h
theorem brE_n (h1 : ¬ p → t n ρ Q) (h2 : p → u n ρ Q) : brE (!decide p) t u n ρ Q := by
  by_cases h : p
  · rw [decide_eq_true h]; exact h2 h
  · rw [decide_eq_false h]; exact h1 h
theorem brT_n (h1 : ¬ p → c n ρ R) (h2 : p → d n ρ R) : brT (!decide p) c d n ρ R := by
  by_cases h : p
  · rw [decide_eq_true h]; exact h2 h
  · rw [decide_eq_false h]; exact h1 h
theorem brS_n (h1 : ¬ p → a D n ρ) (h2 : p → b D n ρ) : brS (!decide p) a b D n ρ := by
  by_cases h : p
  · rw [decide_eq_true h]; exact h2 h
  · rw [decide_eq_false h]; exact h1 h
theorem brE_b (h1 : k = true → t n ρ Q) (h2 : k = false → u n ρ Q) : brE k t u n ρ Q := by
  cases k with
  | true => exact h1 rfl
  | false => exact h2 rfl
theorem brT_b (h1 : k = true → c n ρ R) (h2 : k = false → d n ρ R) : brT k c d n ρ R := by
  cases k with
  | true => exact h1 rfl
  | false => exact h2 rfl
theorem brS_b (h1 : k = true → a D n ρ) (h2 : k = false → b D n ρ) : brS k a b D n ρ := by
  cases k with
  | true => exact h1 rfl
  | false => exact h2 rfl
end
theorem B.ite {k l : Nat} {a b : Int} {p : Prop} [Decidable p] (h : B k a) (g : B l b) : B (max k l) (if p then a else b) := by
  split
  · exact h.mono (Nat.le_max_left _ _)
  · exact g.mono (Nat.le_max_right _ _)
theorem cdivw {a b : Int} {k : Nat} (h0 : 0 < b) (h : B k b) (e : k ≤ 9000) : CDivW a b := ⟨h0, h.log h0 e⟩
theorem cmula {a b : Int} {k l : Nat} (h : B k a) (g : B l b) (e : k + l ≤ 999998) : CMulA a b := CMulA.w h g e
theorem B.len {α : Type} (l : List α) (h : l.length ≤ 1000000) : B 20 ((l.length : Nat) : Int) := by
  show Int.natAbs _ < 2 ^ 20
  rw [Int.natAbs_natCast]
  exact Nat.lt_of_le_of_lt h (by decide)
/-! ### loops and comprehensions by invariants -/
theorem forW_ind {g : RG} {tb : RS} {D : VEnds} (I : Nat → Nat → List Sl → Prop) : ∀ {ts : List Tr} {n : Nat} {ρ : List Sl} (i : Nat), I i n ρ → (∀ (j : Nat) (t : Tr) n ρ, ts[j]? = some t → I (i + j) n ρ → ∀ K : Nat → List Sl → Prop, (∀ n ρ, I (i + j + 1) n ρ → K n ρ) → g t n ρ fun n1 ρ1 => tb { D with nx := K, ct := K, bk := D.nx } n1 ρ1) → (∀ n ρ, I (i + ts.length) n ρ → D.nx n ρ) → forW g tb D ts n ρ
  | [], n, ρ, i, h, _, hd => hd n ρ h
  | t :: ts, n, ρ, i, h, hs, hd => hs 0 t n ρ rfl h (forW g tb D ts) fun n ρ h1 => forW_ind I (i + 1) h1 (fun j t n ρ e hI K hK => by
      have := hs (j + 1) t n ρ (by simpa using e) (by rw [show i + (j + 1) = i + 1 + j by omega]; exact hI) K (fun n ρ q => hK n ρ (by rw [show i + 1 + j + 1 = i + (j + 1) + 1 by omega]; exact q))
      exact this) (fun n ρ hI => hd n ρ (by rw [List.length_cons, show i + (ts.length + 1) = i + 1 + ts.length by omega]; exact hI))
/-- a loop by an invariant over the turn -/
theorem for_inv {g : RG} {tb : RS} {D : VEnds} {ts : List Tr} {n : Nat} {ρ : List Sl} (I : Nat → Nat → List Sl → Prop) (h0 : I 0 n ρ) (hs : ∀ (j : Nat) (t : Tr) n ρ, ts[j]? = some t → I j n ρ → ∀ K : Nat → List Sl → Prop, (∀ n ρ, I (j + 1) n ρ → K n ρ) → g t n ρ fun n1 ρ1 => tb { D with nx := K, ct := K, bk := D.nx } n1 ρ1) (hd : ∀ n ρ, I ts.length n ρ → D.nx n ρ) : forW g tb D ts n ρ :=
  forW_ind I 0 h0 (fun j t n ρ e h K hK => by rw [Nat.zero_add] at h hK; exact hs j t n ρ e h K hK) (fun n ρ h => hd n ρ (by rw [Nat.zero_add] at h; exact h))
/-- a comprehension by an invariant over the turn and what is made -/
theorem lc_ind {g : RG} {tt : RT} {te : RE} {ρ : List Sl} {Q : VQ} (I : Nat → List Tr → Nat → Prop) : ∀ {ts acc : List Tr} {n : Nat} (i : Nat), acc.length + ts.length ≤ sizeLine → I i acc n → (∀ (j : Nat) (t : Tr) acc n, ts[j]? = some t → I (i + j) acc n → ∀ (K1 : VQ) (K2 : Nat → Prop), (∀ y n, I (i + j + 1) (acc ++ [y]) n → K1 y n) → (∀ n, I (i + j + 1) acc n → K2 n) → g t n ρ fun n1 ρ1 => tt n1 ρ1 fun b n2 => if b = true then te n2 ρ1 K1 else K2 n2) → (∀ acc n, I (i + ts.length) acc n → Q (.lst acc) n) → lcW g tt te ρ Q ts acc n
  | [], acc, n, i, _, h, _, hd => hd acc n h
  | t :: ts, acc, n, i, hl, h, hs, hd => by
    have hl' : acc.length + ts.length + 1 ≤ sizeLine := by rw [List.length_cons] at hl; omega
    have rest : ∀ acc' n', acc'.length ≤ acc.length + 1 → I (i + 1) acc' n' → lcW g tt te ρ Q ts acc' n' := fun acc' n' la hI => lc_ind I (i + 1) (by omega) hI (fun j t acc n e hI K1 K2 h1 h2 => hs (j + 1) t acc n (by simpa using e) (by rw [show i + (j + 1) = i + 1 + j by omega]; exact hI) K1 K2 (fun y n q => h1 y n (by rw [show i + 1 + j + 1 = i + (j + 1) + 1 by omega]; exact q)) (fun n q => h2 n (by rw [show i + 1 + j + 1 = i + (j + 1) + 1 by omega]; exact q))) (fun acc n hI => hd acc n (by rw [List.length_cons, show i + (ts.length + 1) = i + 1 + ts.length by omega]; exact hI))
    exact hs 0 t acc n rfl h (fun y n3 => acc.length < sizeLine ∧ lcW g tt te ρ Q ts (acc ++ [y]) n3) (fun n2 => lcW g tt te ρ Q ts acc n2) (fun y n q => ⟨by omega, rest _ n (by rw [List.length_append]; exact Nat.le_refl _) q⟩) (fun n q => rest _ n (Nat.le_succ _) q)
/-- a comprehension whose element is told -/
theorem lc_map {g : RG} {tt : RT} {te : RE} {ρ : List Sl} {Q : VQ} {n : Nat} (keep : Tr → Bool) (f : Tr → Tr) {ts : List Tr} (hl : ts.length ≤ sizeLine) (h : ∀ t ∈ ts, ∀ (K1 : VQ) (K2 : Nat → Prop), (keep t = true → K1 (f t) n) → (keep t = false → K2 n) → g t n ρ fun n1 ρ1 => tt n1 ρ1 fun b n2 => if b = true then te n2 ρ1 K1 else K2 n2) (q : Q (.lst ((ts.filter keep).map f)) n) : lcW g tt te ρ Q ts [] n := by
  refine lc_ind (fun i acc m => m = n ∧ acc = ((ts.take i).filter keep).map f) 0 (by simpa using hl) ⟨rfl, rfl⟩ (fun j t acc m e hI K1 K2 h1 h2 => ?_) (fun acc m hI => ?_)
  · obtain ⟨rfl, rfl⟩ := hI
    rw [Nat.zero_add] at h1 h2
    have tk : ts.take (j + 1) = ts.take j ++ [t] := by rw [List.take_add_one, e]; rfl
    refine h t (List.mem_of_getElem? e) K1 K2 (fun hk => h1 _ _ ⟨rfl, ?_⟩) (fun hk => h2 _ ⟨rfl, ?_⟩)
    · rw [tk, List.filter_append, List.map_append, List.filter_cons, if_pos hk]
      rfl
    · rw [tk, List.filter_append, List.map_append, List.filter_cons, if_neg (by rw [hk]; exact Bool.false_ne_true)]
      simp
  · obtain ⟨rfl, rfl⟩ := hI
    rw [Nat.zero_add, List.take_length]
    exact q
theorem lc_all {g : RG} {te : RE} {ρ : List Sl} {Q : VQ} {n : Nat} (f : Tr → Tr) {ts : List Tr} (hl : ts.length ≤ sizeLine) (h : ∀ t ∈ ts, ∀ K1 : VQ, K1 (f t) n → g t n ρ fun n1 ρ1 => te n1 ρ1 K1) (q : Q (.lst (ts.map f)) n) : lcW g vYes te ρ Q ts [] n := by
  refine lc_map (fun _ => true) f hl (fun t ht K1 K2 h1 _ => h t ht K1 (h1 rfl)) ?_
  rw [List.filter_eq_self.mpr (fun _ _ => rfl)]
  exact q
end VL
/-! more statements at trees: reversed slices, parallel assignment of owned lists, loops by what is left -/
namespace VL
open PySem L2 DS PyProof.Rows
section
variable {X : Cx} {Γ : Cn} {e : Expr} {te : RE} {pos : Pos} {i j : Nat} {st : Stmt}
def revQ : Tr → Nat → VQ → Prop
  | .lst ts, n, Q => Q (.lst ts.reverse) n
  | _, _, _ => False
/-- xs[::-1] -/
def vRev (e : RE) : RE := fun n ρ Q => e n ρ fun t n1 => revQ t n1 Q
theorem ve_rev {k : Nat} {p1 p2 p3 : Pos} (he : PE X e (lE Γ te)) : PE X (.Subscript e (.Slice none none (some (.UnaryOp .USub (.Constant (.int 1) k p1) p2)) p3) pos) (lE Γ (vRev te)) :=
  PE.imp (pe_revL he) fun σ H Q' ⟨ρ, n, F, Q, rel, h, kk⟩ => ⟨ρ, n, F, _, rel, h, fun v t n1 F1 H1 f1 s1 r1 q1 => by
    cases r1 with
    | lst e r =>
      refine ⟨_, _, rfl, .inl (.inl (s1.at_ e)), fun p hp => ?_⟩
      rename_i vs ts
      obtain ⟨f2, s2⟩ := alloc (o := .lst vs.reverse) s1 hp
      exact (kk.go f1) _ _ n1 _ _ f2 s2 (.lst updF_same (r.reverse.mono f2.le)) q1
    | _ => exact q1.elim⟩
/-- a slot gets an owned object that is there -/
theorem Rel.setP {n : Nat} {ρ : List Sl} {F : FH} {σ : L2.St} {H : Hp} (r : Rel Γ n ρ F σ H) {s1 : Sl} {p : Addr} (h1 : RelSl Γ.g Γ.H0 F H s1 (some (.ref p))) (away : ∀ (j : Nat) s, ρ[j]? = some s → isOwn s = true → σ[j]? ≠ some (some (.ref p))) : Rel Γ n (ρ.set i s1) F (σ.set i (some (.ref p))) H := by
  have new : ∀ s, (ρ.set i s1)[i]? = some s → s = s1 ∧ (σ.set i (some (V.ref p)))[i]? = some (some (.ref p)) := fun s e => by
    rw [List.getElem?_set, if_pos rfl] at e
    split at e
    · rename_i hl
      cases e
      exact ⟨rfl, by rw [List.getElem?_set, if_pos rfl, if_pos (by rw [← r.len]; exact hl)]⟩
    · cases e
  have old : ∀ (j : Nat), j ≠ i → (ρ.set i s1)[j]? = ρ[j]? ∧ (σ.set i (some (V.ref p)))[j]? = σ[j]? := fun j q => ⟨List.getElem?_set_ne (Ne.symm q), List.getElem?_set_ne (Ne.symm q)⟩
  refine ⟨r.ok, r.fr, r.sub, by simp [r.len], fun j s ej => ?_, fun j k b s w ne ej ek oj ok sj sk => ?_⟩
  · by_cases q : j = i
    · subst q
      obtain ⟨rfl, g⟩ := new s ej
      exact ⟨_, g, h1⟩
    · obtain ⟨g1, g2⟩ := old j q
      rw [g1] at ej; rw [g2]
      exact r.sl j s ej
  · by_cases q : j = i
    · subst q
      have q2 : k ≠ j := Ne.symm ne
      obtain ⟨g1, g2⟩ := old k q2
      rw [(new s ej).2] at sj; cases sj
      rw [g1] at ek; rw [g2] at sk
      exact away k w ek ok sk
    · obtain ⟨g1, g2⟩ := old j q
      rw [g1] at ej; rw [g2] at sj
      by_cases q2 : k = i
      · subst q2
        rw [(new w ek).2] at sk; cases sk
        exact away j s ej oj sj
      · obtain ⟨g3, g4⟩ := old k q2
        rw [g3] at ek; rw [g4] at sk
        exact r.dis j k b s w ne ej ek oj ok sj sk
/-- x, y = [..], e: x is a list that will be changed -/
def vParO (i j : Nat) (l : RA) (e : RE) : RS := fun D n ρ => l n ρ fun ts n1 => ts.length ≤ sizeLine ∧ e n1 ρ fun t n2 => D.nx n2 ((ρ.set i (.ol ts)).set j (.v t))
theorem vs_parO {tl : RA} (h : PS X st (tPar i j (tCons (tLst (lA Γ tl)) (tCons (lE Γ te) tNil)))) : PS X st (lS Γ (vParO i j tl te)) :=
  PS.imp h fun D' σ H ⟨ρ, n, F, D, rel, h, ok⟩ => ⟨ρ, n, F, _, rel, h, fun vs ts n1 F1 H1 f1 s1 r1 q1 => by
    refine ⟨by rw [r1.length]; exact q1.1, fun p hp => ?_⟩
    have rel1 := rel.go f1 s1
    obtain ⟨f2, s2⟩ := alloc0 (o := .lst vs) s1 hp
    have fp := s1.free hp
    have h0 : nt Γ.H0 p = none := by
      cases q : nt Γ.H0 p with
      | none => rfl
      | some w => exact absurd (nt_none hp) (rel1.fr.there p (by rw [q]; intro z; cases z))
    have rel2 := rel1.go f2 s2
    refine ⟨ρ, n1, F1, _, rel2, q1.2, fun v t n3 F3 H3 f3 s3 r3 q3 => ?_⟩
    have e3 := f3.keep p _ upd_same (by rw [fp]; intro z; cases z) (fun ps z => nomatch z)
    have n3' := f3.none fp (upd_same (o := HO.lst vs))
    refine ⟨_, _, rfl, ok.nx _ n3 F3 _ H3 ((f1.le.trans f2.le).trans f3.le) ?_ q3⟩
    exact ((rel2.go f3 s3).setP (s1 := .ol ts) ⟨p, vs, rfl, e3, n3', h0, (r1.mono f2.le).mono f3.le⟩ (own_some rel1 hp)).set r3⟩
end
theorem rngT_get {lo : Int} {k j : Nat} {t : Tr} (h : (rngT lo k)[j]? = some t) : t = .int (lo + j) ∧ j < k := by
  unfold rngT at h
  rw [List.getElem?_map] at h
  by_cases q : j < k
  · rw [List.getElem?_range q] at h
    exact ⟨(Option.some.inj h).symm, q⟩
  · rw [List.getElem?_eq_none (by rw [List.length_range]; omega)] at h
    cases h
theorem rngT_len {lo : Int} {k : Nat} : (rngT lo k).length = k := by simp [rngT]
theorem lt200 {x : Int} (h : x < 1000000000000000000000000000000000000000000000000) : x < 2 ^ 200 := Int.lt_trans h (by decide)
theorem B.lt200 {x : Int} (h : DS.B 200 x) : x < 2 ^ 200 := by
  have h : x.natAbs < 2 ^ 200 := h
  have : ((x.natAbs : Nat) : Int) < ((2 ^ 200 : Nat) : Int) := by exact_mod_cast h
  have e : ((2 ^ 200 : Nat) : Int) = 2 ^ 200 := by decide
  omega
theorem ite_tt {α : Type} (a b : α) : (if true = true then a else b) = a := rfl
theorem ite_ft {α : Type} (a b : α) : (if false = true then a else b) = b := rfl
/-! ### loops by what is left -/
theorem for_rem {α : Type} {g : RG} {tb : RS} {D : VEnds} (f : α → Tr) (I : List α → Nat → List Sl → Prop) (hs : ∀ x l n ρ, I (x :: l) n ρ → ∀ K : Nat → List Sl → Prop, (∀ n ρ, I l n ρ → K n ρ) → g (f x) n ρ fun n1 ρ1 => tb { D with nx := K, ct := K, bk := D.nx } n1 ρ1) (hd : ∀ n ρ, I [] n ρ → D.nx n ρ) : ∀ {l : List α} {n : Nat} {ρ : List Sl}, I l n ρ → forW g tb D (l.map f) n ρ
  | [], n, ρ, h => hd n ρ h
  | x :: l, n, ρ, h => hs x l n ρ h (forW g tb D (l.map f)) fun n ρ h1 => for_rem f I hs hd h1
end VL
/-! exceptions at trees -/
namespace VL
open PySem L2 DS PyProof.Rows
theorem Fr.ofSame {F : FH} {H H' : Hp} (sm : Same H H') : Fr F H F H' := ⟨le.refl _, fun _ h => .inl h, fun a o h _ _ => sm a o h, fun a h => by
  cases e : nt H a with
  | none => exact absurd e h
  | some o =>
    obtain ⟨q1, q2⟩ := nt_get e
    rw [nt_some (sm a o q1) q2]; intro z; cases z⟩
theorem Sub.ofSame {g : Gb} {n : Nat} {F : FH} {H H' : Hp} (s : Sub g n F H) (sm : Same H H') : Sub g n F H' := ⟨fun a o h => sm a o (s.ob a o h), fun a h => by
  obtain ⟨c, ns, k, l, h1, h2, h3⟩ := (s.pen a h).ex
  exact ⟨c, ns, k, l, sm _ _ h1, h2, h3⟩, s.tab.ext sm, s.nt⟩
section
variable {X : Cx} {Γ : Cn} {st : Stmt} {te : RE} {C : Addr} {f : Str}
/-- raise C(e), C an own exception that keeps e under f -/
def vRaise1 (C : Addr) (f : Str) (x : XQ) (e : RE) : RS := fun _ n ρ => e n ρ fun t n1 => x C [(f, t)] n1
theorem vs_raise1 (h : PS X st (fun _ σ H => tMkO C (spX1 C f) [] (tCons (lE Γ te) tNil) σ H fun cls d H' => Γ.E cls d H')) : PS X st (lS Γ (vRaise1 C f Γ.x te)) :=
  PS.imp h fun D' σ H ⟨ρ, n, F, D, rel, h, ok⟩ => ⟨ρ, n, F, _, rel, h, fun v t n1 F1 H1 f1 s1 r1 q1 => by
    have bad : Bad C f v (fun cls d H' => Γ.E cls d H') H1 := fun d H' sm e => rel.ok.out C (some d) [(f, v)] [(f, t)] n1 F1 H' ((rel.fr.trans f1).trans (Fr.ofSame sm)) (s1.ofSame sm) e (.cons r1 .nil) q1
    have key := w_mkX1 (te := tC v) (σ := σ) (H := H1) (fun R r => r) bad
    exact key⟩
end
/-! ### a lambda handed to a def that tells what it raises -/
theorem Fr.ext {F : FH} {H H1 : Hp} (e : LamX.ExtN H H1) : Fr F H F H1 := ⟨le.refl _, fun _ h => .inl h, fun a o h _ no => e a o h no, fun a h => by
  cases q : nt H a with
  | none => exact absurd q h
  | some o =>
    obtain ⟨q1, q2⟩ := nt_get q
    rw [nt_some (e a o q1 q2) q2]; intro z; cases z⟩
theorem Sub.ext {g : Gb} {n : Nat} {F : FH} {H H1 : Hp} (s : Sub g n F H) (e : LamX.ExtN H H1) (T1 : LamX.Tabs g.TT H1) : Sub g n F H1 := ⟨fun a o h => e a o (s.ob a o h) (fun ps z => by
  subst z
  exact s.nt a ps (hp_eq.mp h)), fun a h => by
  obtain ⟨c, ns, k, l, h1, h2, h3⟩ := (s.pen a h).ex
  exact ⟨c, ns, k, l, e _ _ h1 (fun _ z => nomatch z), h2, h3⟩, T1, s.nt⟩
def hideS : Sl → Sl
  | .v t => .v t
  | _ => .un
def hide (ρ : List Sl) : List Sl := ρ.map hideS
/-- the slots as a lambda sees them -/
theorem Rel.hide {Γ Δ : Cn} {n : Nat} {ρ : List Sl} {F : FH} {σ : L2.St} {H : Hp} (r : Rel Γ n ρ F σ H) (eg : Δ.g = Γ.g) (ok : Δ.Ok) (fr : Fr Δ.F0 Δ.H0 F H) : Rel Δ n (VL.hide ρ) F σ H := by
  have un : ∀ (i : Nat) s, (VL.hide ρ)[i]? = some s → ∃ u, ρ[i]? = some u ∧ s = hideS u := fun i s e => by
    unfold VL.hide at e
    rw [List.getElem?_map] at e
    cases q : ρ[i]? with
    | none => rw [q] at e; cases e
    | some u => rw [q] at e; cases e; exact ⟨u, rfl, rfl⟩
  have no : ∀ u, isOwn (hideS u) = false := fun u => by cases u <;> rfl
  refine ⟨ok, fr, by rw [eg]; exact r.sub, by unfold VL.hide; rw [List.length_map]; exact r.len, fun i s e => ?_, fun i j a s u ne ei ej oi _ _ _ => ?_⟩
  · obtain ⟨u, h1, rfl⟩ := un i s e
    obtain ⟨x, h2, h3⟩ := r.sl i u h1
    refine ⟨x, h2, ?_⟩
    cases u with
    | v t => rw [eg]; exact h3
    | _ => trivial
  · obtain ⟨w, _, rfl⟩ := un i s ei
    rw [no w] at oi
    cases oi
theorem PE.ex {X : Cx} {e : Expr} {α : Type} {t : α → TE} (h : ∀ a, PE X e (t a)) : PE X e (fun σ H Q => ∃ a, t a σ H Q) := ⟨fun pins s σ H Q I ⟨a, q⟩ => (h a).run pins s σ H Q I q⟩
/-- a lambda's body, its context left open -/
def tlam (g : Gb) (te : XQ → RE) (E : XK) : TE := fun σ H Q => ∃ p : FH × Hp × XQ, lE ⟨g, p.1, p.2.1, E, p.2.2⟩ (te p.2.2) σ H Q
/-- told = (); try: call() / except C as e: told = (tag, e.fld) / return told -/
def TTa (C : Addr) (fld tag : Str) : (XK → Hp → VK → Prop) → Hp → VK → Prop := fun tl H Q => ∀ p0, H p0 = none →
  tl (fun cls d H' => ∃ dd v, cls = .ref C ∧ d = some dd ∧ H' dd = some (.xd [(fld, v)]) ∧ ∀ p, H' p = none → Q (.ref p) (upd H' p (.tup [.str tag, v]))) (upd H p0 (.tup [])) fun _ H' => Q (.ref p0) H'
def toldQ (fld tag : Str) (Q : VQ) : List (Str × Tr) → Nat → Prop
  | [(f, t)], n => f = fld ∧ Q (.tup [.str tag, t]) n
  | _, _ => False
def vToldA (C : Addr) (fld tag : Str) (te : XQ → RE) : RE := fun n ρ Q => te (fun C' fs n1 => C' = C ∧ toldQ fld tag Q fs n1) n (hide ρ) fun _ n1 => Q (.tup []) n1
theorem ve_toldA {X : Cx} {Γ : Cn} {e : Expr} {C : Addr} {fld tag : Str} {te : XQ → RE} (h : PE X e (LamX.tLam Γ.g.TT (TTa C fld tag) (tlam Γ.g te))) : PE X e (lE Γ (vToldA C fld tag te)) :=
  PE.imp h fun σ H Q' ⟨ρ, n, F, Q, rel, h, k⟩ => ⟨rel.sub.tab, fun H1 eN T1 p0 n0 => by
    have f1 : Fr F H F H1 := Fr.ext eN
    have s1 := rel.sub.ext eN T1
    have rel1 := rel.go f1 s1
    obtain ⟨f2, s2⟩ := alloc (o := .tup []) s1 n0
    have rel2 := rel1.go f2 s2
    have k2 := (k.go f1).go f2
    refine ⟨⟨updF F p0 (.ob (.tup [])), upd H1 p0 (.tup []), fun C' fs n1 => C' = C ∧ toldQ fld tag Q fs n1⟩, VL.hide ρ, n, _, fun _ n1 => Q (.tup []) n1, rel2.hide rfl ⟨fun C' d fvs fts n' F' H' f' s' xa rf hx => ?_⟩ (Fr.refl _ _), h, fun v t n' F' H' f' s' r' q' => ?_⟩
    · obtain ⟨rfl, hx⟩ := hx
      match fts, hx, rf with
      | [(f, t)], ⟨e1, q⟩, rf =>
        subst e1
        cases rf with
        | cons r rs =>
          cases rs with
          | nil =>
            rename_i v
            cases d with
            | none => cases (show [(f, v)] = [] from xa)
            | some dd =>
              refine ⟨dd, v, rfl, rfl, xa, fun p np => ?_⟩
              obtain ⟨f3, s3⟩ := alloc (o := .tup [.str tag, v]) s' np
              exact k2 _ _ n' _ _ (f'.trans f3) s3 (.tup (.inl (.inl (hp_eq.mpr updF_same))) (.cons (.str tag) (.cons (r.mono f3.le) .nil))) q
    · exact k2 _ _ n' F' H' f' s' (.tup (.inl (.inl (hp_eq.mpr (f'.le _ _ updF_same)))) .nil) q'⟩
/-! ### the end of a law with lambdas -/
def spLawT (K : PySem.W.Frag) (TT : List (Addr × Str)) : Sp := fun vs H Q _ => ∃ (a : Addr) (ns : List Int), vs = [.ref a] ∧ SqL K H a (ns.map V.int) ∧ ns.length ≤ 63 ∧ (∀ p ∈ TT, H p.1 = some (.tbl #[])) ∧ ∀ H', Q (.bl true) H'
theorem law_endT {TT : List (Addr × Str)} {P : Program} {w : World} {K : PySem.W.Frag} {mg : Str → Option Value} {base : Heap} {k : Nat} {f : Addr} {fd : FuncData} {ps : List Str} {pk : Str × Str × Str} {pz : Bool} (F : FnOk P w K mg base (L2.CX P w) k f fd ps (lSp ⟨K, TT, pk, pz⟩ 1 vlaw)) : FnOk P w K mg base CX0 k f fd ps (spLawT K TT) := by
  have key : ∀ vs H Q E, spLawT K TT vs H Q E → lSp ⟨K, TT, pk, pz⟩ 1 vlaw vs H Q (fun _ _ _ => False) := fun vs H Q E ⟨a, ns, e, sq, hl, ht, q⟩ => by
    subst e
    have fin : ∀ F0 : FH, Sub ⟨K, TT, pk, pz⟩ 0 F0 H → SqL K (hp F0) a (ns.map V.int) → lSp ⟨K, TT, pk, pz⟩ 1 vlaw [.ref a] H Q (fun _ _ _ => False) := fun F0 s sq =>
      ⟨0, F0, [.scr ns], fun t _ => t = .bl true, fun _ _ _ => False, rfl, s, .cons (.scr sq) .nil, ⟨hl, rfl, fun _ => rfl⟩, fun v t n' F' H' f' s' r' q' => by
        subst q'
        cases r'
        exact q H', fun _ _ _ _ _ _ _ _ _ _ _ z => z⟩
    have one : ∀ o, H a = some o → (∀ ps, o ≠ .tbl ps) → Sub ⟨K, TT, pk, pz⟩ 0 (updF (fun _ => none) a (.ob o)) H := fun o e no => by
      refine ⟨fun b u h => ?_, fun b h => ?_, (fun p hp => LamX.TabS.nil (ht p hp)), fun b ps h => ?_⟩
      · have h := hp_eq.mp h
        by_cases z : b = a
        · subst z; rw [updF_same] at h; cases h; exact e
        · rw [updF_ne z] at h; cases h
      · by_cases z : b = a
        · subst z; rw [updF_same] at h; cases h
        · rw [updF_ne z] at h; cases h
      · by_cases z : b = a
        · subst z; rw [updF_same] at h; cases h; exact no _ rfl
        · rw [updF_ne z] at h; cases h
    rcases sq with (sq | ⟨o, sq⟩) | sq
    · exact fin _ (one _ sq (fun _ z => nomatch z)) (.inl (.inl (hp_eq.mpr updF_same)))
    · exact fin _ (one _ sq (fun _ z => nomatch z)) (.inl (.inr ⟨o, hp_eq.mpr updF_same⟩))
    · refine fin (fun _ => none) ⟨fun b u h => ?_, fun b h => ?_, (fun p hp => LamX.TabS.nil (ht p hp)), fun b ps h => ?_⟩ (.inr sq)
      · have h := hp_eq.mp h
        cases h
      · cases h
      · cases h
  refine ⟨fun vs H Q E h => F.len _ _ _ _ (key _ _ _ _ h), fun A outer s H args us vs Q E hr e0 hb r hs => codeAny_mono (F.run A outer s H args us vs Q _ hr e0 hb r (key _ _ _ _ hs)) fun r s' h => ?_⟩
  cases r with
  | error e =>
    obtain ⟨_, _, _, _, _, _, _, _, _, _, _, _, z⟩ := h
    exact z.elim
  | ok fl => cases fl <;> exact h
end VL
/-! more at trees: x, y = e, [..]; lists unpacked; tuples of ints in order; list.index of ints; walks over lists and tuples -/
namespace VL
open PySem L2 DS PyProof.Rows
section
variable {X : Cx} {Γ : Cn} {e : Expr} {te ta tb : RE} {pos : Pos} {i j : Nat} {st : Stmt}
/-- x, y = e, [..]: y is a list that will be changed -/
def vParO2 (i j : Nat) (e : RE) (l : RA) : RS := fun D n ρ => e n ρ fun t n1 => l n1 ρ fun ts n2 => ts.length ≤ sizeLine ∧ D.nx n2 ((ρ.set i (.v t)).set j (.ol ts))
theorem vs_parO2 {tl : RA} (h : PS X st (tPar i j (tCons (lE Γ te) (tCons (tLst (lA Γ tl)) tNil)))) : PS X st (lS Γ (vParO2 i j te tl)) :=
  PS.imp h fun D' σ H ⟨ρ, n, F, D, rel, h, ok⟩ => ⟨ρ, n, F, _, rel, h, fun v t n1 F1 H1 f1 s1 r1 q1 =>
    ⟨ρ, n1, F1, _, rel.go f1 s1, q1, fun vs ts n2 F2 H2 f2 s2 r2 q2 => ⟨by rw [r2.length]; exact q2.1, fun p hp => ⟨_, _, rfl, by
      have rel2 := ((rel.go f1 s1).go f2 s2).set (i := i) (r1.mono f2.le)
      exact ok.nx _ n2 F2 _ _ (f1.le.trans f2.le) (rel2.setO (s1 := .ol ts) hp fun a b => ⟨p, vs, rfl, upd_same, a, b, r2⟩) q2.2⟩⟩⟩⟩
/-- a, b, .. = a tuple or a list of that length -/
def gSeqN (k : Nat) (gs : RGs) : RG
  | .tup ts, n, ρ, Q => ts.length = k ∧ gs ts n ρ Q
  | .lst ts, n, ρ, Q => ts.length = k ∧ gs ts n ρ Q
  | _, _, _, _ => False
theorem PG.or {tg : Expr} {t u : TG} (a : PG X tg t) (b : PG X tg u) : PG X tg (fun v σ H Q => t v σ H Q ∨ u v σ H Q) := ⟨fun pins s σ H v w Q I r q => q.elim (fun q => a.run pins s σ H v w Q I r q) fun q => b.run pins s σ H v w Q I r q⟩
theorem vg_seq {vs : List Nat} {es : List Expr} {k : Nat} {gs : RGs} {m : Nat} (hK : X.K = Γ.g.K) (hc : X.calm = true) (h : PGs X es (lGs Γ vs gs)) (hn : (assignEach es X.env).length = m := by rfl) (hst : (assignEach es X.env).findIdx? (·.1) = none := by rfl) : PG X (.Tuple es k pos) (lG Γ vs (gSeqN m gs)) :=
  PG.imp (PG.or (pg_tup hc h hn hst) (pg_lst hc h hn hst)) fun v σ H Q' ⟨ρ, n, F, t, Q, rel, r, h, k⟩ => by
    cases r with
    | tup q r => exact .inl ⟨_, _, rfl, by rw [hK]; exact sqT_sub rel.sub q, by rw [r.length]; exact h.1, ρ, n, F, _, _, rel, r, h.2, k⟩
    | lst q r => exact .inr ⟨_, _, rfl, .inl (.inl (rel.sub.at_ q)), by rw [r.length]; exact h.1, ρ, n, F, _, _, rel, r, h.2, k⟩
    | _ => exact h.elim
/-- tuples of ints in order -/
def vLtT : VR2
  | .tup ts, .tup us, n, Q => ∃ ns ms : List Int, ts = ns.map Tr.int ∧ us = ms.map Tr.int ∧ Q (.bl (HT.lexLt ns ms)) n
  | _, _, _, _ => False
theorem ov_ltT (hK : X.K = Γ.g.K) (hu : X.A.units < cLine) : OpR X (compareOp .Lt) (lR Γ vLtT) := OpR.imp (op_ltT hu) fun x y H Q' ⟨n, F, tx, ty, Q, ok, fr, s, rx, ry, q, k⟩ => by
  cases rx with
  | tup e1 r1 =>
    cases ry with
    | tup e2 r2 =>
      obtain ⟨ns, ms, rfl, rfl, q⟩ := q
      have h1 := r1.ints
      have h2 := r2.ints
      subst h1 h2
      exact ⟨_, _, ns, ms, rfl, rfl, by rw [hK]; exact sqT_sub s e1, by rw [hK]; exact sqT_sub s e2, k.here s (.bl _) q⟩
    | _ => exact q.elim
  | _ => exact q.elim
/-- a list or a tuple that a name holds is walked -/
def seqV : Sl → Nat → (List Tr → Nat → Prop) → Prop
  | .v (.lst ts), n, Q => Q ts n
  | .v (.tup ts), n, Q => Q ts n
  | _, _, _ => False
def iSeqV (i : Nat) : RA := fun n ρ Q => seqV (gt ρ i) n Q
theorem PI.or {tg iter : Expr} {w1 w2 : TI} (a : PI X tg iter w1) (b : PI X tg iter w2) : PI X tg iter (fun σ H R => w1 σ H R ∨ w2 σ H R) := ⟨fun pins s σ H R I q => q.elim (fun q => a.run pins s σ H R I q) fun q => b.run pins s σ H R I q⟩
theorem vi_seqV {tg : Expr} (hK : X.K = Γ.g.K) (he : PE X e (lE Γ (vVar i))) : PI X tg e (lI Γ (iSeqV i)) := PI.imp (PI.or (vi_list hK he) (vi_tup hK he)) fun σ H R ⟨ρ, n, F, Q, rel, h, k⟩ => by
  have h : seqV (gt ρ i) n Q := h
  cases eg : gt ρ i with
  | v t =>
    rw [eg] at h
    cases t with
    | lst ts => exact .inl ⟨ρ, n, F, Q, rel, (show vv (gt ρ i) n _ by rw [eg]; exact h), k⟩
    | tup ts => exact .inr ⟨ρ, n, F, Q, rel, (show vv (gt ρ i) n _ by rw [eg]; exact h), k⟩
    | _ => exact h.elim
  | _ => rw [eg] at h; exact h.elim
/-- xs.index(y), ints -/
def ixoQ (ts : List Tr) : Tr → Nat → VQ → Prop
  | .int y, n, Q => ∃ (ns : List Int) (j : Nat), ts = ns.map Tr.int ∧ ns[j]? = some y ∧ (∀ m, m < j → ns[m]? ≠ some y) ∧ Q (.int (j : Nat)) n
  | _, _, _ => False
def vIndex (a b : RE) : RE := fun n ρ Q => a n ρ fun t n1 => lstQ t n1 fun ts n2 => b n2 ρ fun u n3 => ixoQ ts u n3 Q
theorem flat_ints : ∀ ns : List Int, (ns.map V.int).all flatV = true
  | [] => rfl
  | _ :: ns => flat_ints ns
theorem ve_index {o : Expr} (h : PE X o (tBM X.K "list" (rIndex X.K) (lE Γ ta) (tCons (lE Γ tb) tNil))) : PE X o (lE Γ (vIndex ta tb)) :=
  PE.imp h fun σ H Q' ⟨ρ, n, F, Q, rel, h, k⟩ => ⟨ρ, n, F, _, rel, h, fun v t n1 F1 H1 f1 s1 r1 q1 => by
    cases r1 with
    | lst e r =>
      refine ⟨.inl ⟨rfl, _, .inl (.inl (s1.at_ e))⟩, ρ, n1, F1, _, rel.go f1 s1, q1, fun u tu n2 F2 H2 f2 s2 r2 q2 => ?_⟩
      cases r2 with
      | int y =>
        obtain ⟨ns, j, rfl, hj, hno, q⟩ := q2
        have hv := r.ints
        subst hv
        refine ⟨_, ns.map V.int, .int y, j, .int y, rfl, rfl, .inl (.inl (s2.at_ (f2.le _ _ e))), rfl, flat_ints ns, by rw [List.getElem?_map, hj]; rfl, by simp [eqV], fun m z hm hz => ?_, ((k.go f1).go f2).here s2 (.int _) q⟩
        rw [List.getElem?_map] at hz
        cases hw : ns[m]? with
        | none => rw [hw] at hz; cases hz
        | some w =>
          rw [hw] at hz
          cases hz
          show (w == y) = false
          have : w ≠ y := fun zz => hno m hm (by rw [hw, zz])
          simpa using this
      | _ => exact q2.elim
    | _ => exact q1.elim⟩
/-! ### a call of a name that holds a def -/
theorem PE.or {o : Expr} {t u : TE} (a : PE X o t) (b : PE X o u) : PE X o (fun σ H Q => t σ H Q ∨ u σ H Q) := ⟨fun pins s σ H Q I q => q.elim (fun q => a.run pins s σ H Q I q) fun q => b.run pins s σ H Q I q⟩
def defQ (f : Addr) : Sl → Prop
  | .v (.opq v) => v = .ref f
  | _ => False
/-- x(..), x holds the def at f or the def at f2 -/
def vCallL2 (i : Nat) (f f2 : Addr) (m : Nat) (x : XQ) (sp sp2 : VSp) (a : RA) : RE := fun n ρ Q => (defQ f (gt ρ i) ∧ a n ρ fun ts n1 => ts.length = m ∧ sp ts n1 Q x) ∨ (defQ f2 (gt ρ i) ∧ a n ρ fun ts n1 => ts.length = m ∧ sp2 ts n1 Q x)
theorem callL_in {f : Addr} {m : Nat} {sp : VSp} {tl : RA} {σ : L2.St} {H : Hp} {Q' : VK} {ρ : List Sl} {n : Nat} {F : FH} {Q : VQ} (rel : Rel Γ n ρ F σ H) (k : Then Γ.g F H Q Q') (h : defQ f (gt ρ i) ∧ tl n ρ fun ts n1 => ts.length = m ∧ sp ts n1 Q Γ.x) : tCallL i f (lSp Γ.g m sp) [] Γ.E (lA Γ tl) σ H Q' := by
  obtain ⟨hd, h⟩ := h
  cases eg : gt ρ i with
  | v t =>
    rw [eg] at hd
    cases t with
    | opq v =>
      obtain rfl : v = .ref f := hd
      have ei := gt_get eg (fun z => nomatch z)
      obtain ⟨o, h1, w, h2, h3⟩ := rel.sl i _ ei
      cases h3
      subst h2
      refine ⟨h1, ρ, n, F, _, rel, h, fun vs ts n1 F1 H1 f1 s1 r1 q1 => ?_⟩
      show lSp Γ.g m sp (vs ++ []) H1 Q' Γ.E
      rw [List.append_nil]
      exact ⟨n1, F1, ts, Q, Γ.x, q1.1, s1, r1, q1.2, k.go f1, rel.ok.thenX (rel.fr.trans f1)⟩
    | _ => exact hd.elim
  | _ => rw [eg] at hd; exact hd.elim
theorem ve_callL2 {o : Expr} {f f2 : Addr} {m : Nat} {sp sp2 : VSp} {tl : RA} (h1 : PE X o (tCallL i f (lSp Γ.g m sp) [] Γ.E (lA Γ tl))) (h2 : PE X o (tCallL i f2 (lSp Γ.g m sp2) [] Γ.E (lA Γ tl))) : PE X o (lE Γ (vCallL2 i f f2 m Γ.x sp sp2 tl)) :=
  PE.imp (PE.or h1 h2) fun σ H Q' ⟨ρ, n, F, Q, rel, h, k⟩ => h.elim (fun h => .inl (callL_in rel k h)) fun h => .inr (callL_in rel k h)
/-- xs[k], xs a list or a tuple -/
def ixS : VR2
  | .lst ts, u, n, Q => ixL (.lst ts) u n Q
  | .tup ts, u, n, Q => ixT (.tup ts) u n Q
  | _, _, _, _ => False
theorem IxR.or {r u : R2} (a : IxR X r) (b : IxR X u) : IxR X (fun x y H Q => r x y H Q ∨ u x y H Q) := fun v w pins s σ H x y p q Q I rx ry h z => h.elim (fun h => a v w pins s σ H x y p q Q I rx ry h z) fun h => b v w pins s σ H x y p q Q I rx ry h z
theorem iv_seq (hK : X.K = Γ.g.K) : IxR X (lR Γ ixS) := IxR.imp (IxR.or iv_list (iv_tup hK)) fun x y H Q' ⟨n, F, tx, ty, Q, ok, fr, s, rx, ry, q, k⟩ => by
  cases rx with
  | lst e r => exact .inl ⟨n, F, _, ty, Q, ok, fr, s, .lst e r, ry, q, k⟩
  | tup e r => exact .inr ⟨n, F, _, ty, Q, ok, fr, s, .tup e r, ry, q, k⟩
  | _ => exact q.elim
end
end VL
/-! walks by a relation of trees and plain values -/
namespace VL
open PySem L2 DS
inductive RL {α : Type} (R : Tr → α → Prop) : List Tr → List α → Prop
  | nil : RL R [] []
  | cons {t : Tr} {x : α} {ts : List Tr} {l : List α} (h : R t x) (r : RL R ts l) : RL R (t :: ts) (x :: l)
theorem RL.length {α : Type} {R : Tr → α → Prop} : ∀ {ts : List Tr} {l : List α}, RL R ts l → ts.length = l.length
  | _, _, .nil => rfl
  | _, _, .cons _ r => congrArg (· + 1) r.length
theorem RL.map {α : Type} {R : Tr → α → Prop} {f : α → Tr} (h : ∀ x, R (f x) x) : ∀ l : List α, RL R (l.map f) l
  | [] => .nil
  | x :: l => .cons (h x) (RL.map h l)
theorem RL.map2 {α β : Type} {R : Tr → α → Prop} {f : β → Tr} {g : β → α} (h : ∀ x, R (f x) (g x)) : ∀ l : List β, RL R (l.map f) (l.map g)
  | [] => .nil
  | x :: l => .cons (h x) (RL.map2 h l)
theorem for_rel {α : Type} {g : RG} {tb : RS} {D : VEnds} (R : Tr → α → Prop) (I : List α → Nat → List Sl → Prop) (hs : ∀ t x l n ρ, R t x → I (x :: l) n ρ → ∀ K : Nat → List Sl → Prop, (∀ n ρ, I l n ρ → K n ρ) → g t n ρ fun n1 ρ1 => tb { D with nx := K, ct := K, bk := D.nx } n1 ρ1) (hd : ∀ n ρ, I [] n ρ → D.nx n ρ) : ∀ {ts : List Tr} {l : List α} {n : Nat} {ρ : List Sl}, RL R ts l → I l n ρ → forW g tb D ts n ρ
  | _, _, n, ρ, .nil, h => hd n ρ h
  | _, _, n, ρ, .cons (t := t) (x := x) (ts := ts) (l := l) q r, h => hs t x l n ρ q h (forW g tb D ts) fun n ρ h1 => for_rel R I hs hd r h1
theorem for_pred {g : RG} {tb : RS} {D : VEnds} (P : List Tr → Nat → List Sl → Prop) (hs : ∀ t ts n ρ, P (t :: ts) n ρ → ∀ K : Nat → List Sl → Prop, (∀ n ρ, P ts n ρ → K n ρ) → g t n ρ fun n1 ρ1 => tb { D with nx := K, ct := K, bk := D.nx } n1 ρ1) (hd : ∀ n ρ, P [] n ρ → D.nx n ρ) : ∀ {ts : List Tr} {n : Nat} {ρ : List Sl}, P ts n ρ → forW g tb D ts n ρ
  | [], n, ρ, h => hd n ρ h
  | t :: ts, n, ρ, h => hs t ts n ρ h (forW g tb D ts) fun n ρ h1 => for_pred P hs hd h1
theorem lc_rel0 {α : Type} {g : RG} {te : RE} {ρ : List Sl} {Q : VQ} {n : Nat} (R : Tr → α → Prop) (f : α → Tr) : ∀ {ts : List Tr} {l : List α} {acc : List Tr}, RL R ts l → acc.length + ts.length ≤ sizeLine → (∀ t x, x ∈ l → R t x → ∀ K1 : VQ, K1 (f x) n → g t n ρ fun n1 ρ1 => te n1 ρ1 K1) → Q (.lst (acc ++ l.map f)) n → lcW g vYes te ρ Q ts acc n
  | _, _, acc, .nil, hl, h, q => by
    rw [List.map_nil, List.append_nil] at q
    exact q
  | _, _, acc, .cons (t := t) (x := x) (ts := ts) (l := l) a r, hl, h, q => by
    unfold lcW
    refine h t x (List.mem_cons_self ..) a _ ?_
    rw [List.length_cons] at hl
    refine ⟨by omega, ?_⟩
    refine lc_rel0 R f r ?_ (fun t x m => h t x (List.mem_cons_of_mem _ m)) ?_
    · rw [List.length_append, List.length_singleton]; omega
    · rw [List.append_assoc]; exact q
theorem lc_rel {α : Type} {g : RG} {te : RE} {ρ : List Sl} {Q : VQ} {n : Nat} (R : Tr → α → Prop) (f : α → Tr) {ts : List Tr} {l : List α} (r : RL R ts l) (hl : ts.length ≤ sizeLine) (h : ∀ t x, x ∈ l → R t x → ∀ K1 : VQ, K1 (f x) n → g t n ρ fun n1 ρ1 => te n1 ρ1 K1) (q : Q (.lst (l.map f)) n) : lcW g vYes te ρ Q ts [] n :=
  lc_rel0 R f r (by rw [List.length_nil, Nat.zero_add]; exact hl) h q
end VL
/-! a lambda handed to a def that tells what it raises: tuples of tags and fields -/
namespace VL
open PySem L2 DS PyProof.Rows
/-- an item of what is told: a text, or a field of the exception -/
inductive AI where
  | s (x : Str) | f (x : Str)
inductive Its {α : Type} (str : Str → α) (fs : List (Str × α)) : List AI → List α → Prop
  | nil : Its str fs [] []
  | s {x : Str} {its : List AI} {ts : List α} (r : Its str fs its ts) : Its str fs (.s x :: its) (str x :: ts)
  | f {x : Str} {t : α} {its : List AI} {ts : List α} (h : fs.lookup x = some t) (r : Its str fs its ts) : Its str fs (.f x :: its) (t :: ts)
theorem Its.rep {g : Gb} {F : FH} {fvs : List (Str × V)} {fts : List (Str × Tr)} (rf : RepF g F fvs fts) : ∀ {its : List AI} {ts : List Tr}, Its Tr.str fts its ts → ∃ vs, Its V.str fvs its vs ∧ Reps g F vs ts
  | _, _, .nil => ⟨[], .nil, .nil⟩
  | _, _, .s (x := x) r => by
    obtain ⟨vs, h1, h2⟩ := Its.rep rf r
    exact ⟨_, .s h1, .cons (.str x) h2⟩
  | _, _, .f h r => by
    obtain ⟨vs, h1, h2⟩ := Its.rep rf r
    obtain ⟨v, l, q⟩ := rf.lookup h
    exact ⟨_, .f l h1, .cons q h2⟩
/-- the def calls the lambda; for an exception of a class of al it answers a tuple, otherwise () -/
def TTm (al : List (Addr × List AI)) : (XK → Hp → VK → Prop) → Hp → VK → Prop := fun tl H Q => ∀ p0, H p0 = none →
  tl (fun cls d H' => ∃ C its fvs vs, (C, its) ∈ al ∧ cls = .ref C ∧ XAt H' d fvs ∧ Its V.str fvs its vs ∧ ∀ p, H' p = none → Q (.ref p) (upd H' p (.tup vs))) (upd H p0 (.tup [])) fun _ H' => Q (.ref p0) H'
abbrev LRE := XK → FH → Hp → XQ → RE
/-- a lambda's body, its context left open -/
def tlamE (g : Gb) (te : LRE) (E : XK) : TE := fun σ H Q => ∃ p : FH × Hp × XQ, lE ⟨g, p.1, p.2.1, E, p.2.2⟩ (te E p.1 p.2.1 p.2.2) σ H Q
def vToldM (al : List (Addr × List AI)) (te : LRE) : RE := fun n ρ Q => ∀ E F0 H0, te E F0 H0 (fun C fs n1 => ∃ its ts, (C, its) ∈ al ∧ Its Tr.str fs its ts ∧ ts.length ≤ sizeLine ∧ Q (.tup ts) n1) n (hide ρ) fun _ n1 => Q (.tup []) n1
theorem ve_toldM {X : Cx} {Γ : Cn} {e : Expr} {al : List (Addr × List AI)} {te : LRE} (h : PE X e (LamX.tLam Γ.g.TT (TTm al) (tlamE Γ.g te))) : PE X e (lE Γ (vToldM al te)) :=
  PE.imp h fun σ H Q' ⟨ρ, n, F, Q, rel, h, k⟩ => ⟨rel.sub.tab, fun H1 eN T1 p0 n0 => by
    have f1 : Fr F H F H1 := Fr.ext eN
    have s1 := rel.sub.ext eN T1
    have rel1 := rel.go f1 s1
    obtain ⟨f2, s2⟩ := alloc (o := .tup []) s1 n0
    have rel2 := rel1.go f2 s2
    have k2 := (k.go f1).go f2
    refine ⟨⟨updF F p0 (.ob (.tup [])), upd H1 p0 (.tup []), fun C fs n1 => ∃ its ts, (C, its) ∈ al ∧ Its Tr.str fs its ts ∧ ts.length ≤ sizeLine ∧ Q (.tup ts) n1⟩, VL.hide ρ, n, _, fun _ n1 => Q (.tup []) n1, rel2.hide rfl ⟨fun C' d fvs fts n' F' H' f' s' xa rf hx => ?_⟩ (Fr.refl _ _), h _ _ _, fun v t n' F' H' f' s' r' q' => ?_⟩
    · obtain ⟨its, ts, m, it, _, q⟩ := hx
      obtain ⟨vs, h1, h2⟩ := it.rep rf
      refine ⟨C', its, fvs, vs, m, rfl, xa, h1, fun p np => ?_⟩
      obtain ⟨f3, s3⟩ := alloc (o := .tup vs) s' np
      exact k2 _ _ n' _ _ (f'.trans f3) s3 (.tup (.inl (.inl (hp_eq.mpr updF_same))) (h2.mono f3.le)) q
    · exact k2 _ _ n' F' H' f' s' (.tup (.inl (.inl (hp_eq.mpr (f'.le _ _ updF_same)))) .nil) q'⟩
/-! ### the call -/
theorem pe_told {X : Cx} {TT : (XK → Hp → VK → Prop) → Hp → VK → Prop} {g : Gb} {te : LRE} {x a : Str} {st : Stmt} {f c P : Addr} {fd : FuncData} {Ng : List Str} {k : Nat} {params : Arguments} {body : Expr} {scope : Scope} {p lpos pos : Pos}
    (F : Fun X.K x x st f fd) (hg : Gl X x) (hm : X.mg x = some (.ref f)) (hb : Binds X.K fd [a] []) (Sg : FnScope Ng [a] (defScope st)) (hNg : Ng[0]? = some a) (hva : Vis (defScope st) a)
    (hG : ∀ cdv, LamX.GivesTo X Ng x (defScope st) f cdv (defBody st) a (X.env.qual ++ "<lambda>") TT) (TB : LamX.TabB X.base X.mg c P) (hcode : X.env.code = .ref c) (hmT : (P, X.env.qual ++ "<lambda>") ∈ g.TT) (hu : ∀ p ∈ g.TT, p.1 = P → p.2 = X.env.qual ++ "<lambda>")
    (hr : Room (k + 2) X.A) (L : LamX.LamS X.env.scope scope) (hdef : defaultsOf params X.env = ([], []))
    (hbind : ∀ (q : Str) (cl : List (Str × Addr)) (pm cv ctv : Value), bindArgs (PySem.W.kla_fn "<lambda>" q params body scope cl pm cv ctv) ⟨[], []⟩ = pure [])
    (hbody : ∀ (A : Around) (outer : List Env) (s : Shared) (H : Hp) (E : XK) (f c' : Addr), Room k (A.deeper (LamX.lamEnv X scope s.heap.objs.size f c')) → ∀ (F0 : FH) (H0 : Hp) (xq : XQ), PE (LamX.lamCx X A outer s H E scope f c') body (lE ⟨g, F0, H0, E, xq⟩ (te E F0 H0 xq)))
    (hdb : (x == ("__debug__" : Str)) = false := by decide) (hd : (a == ("__debug__" : Str)) = false := by decide) (hcd : (a == ("__classdict__" : Str)) = false := by decide) :
    PE X (.Call (.Name x p) [.Lambda params body scope lpos] [] pos) (LamX.tLam g.TT TT (tlamE g te)) := by
  obtain ⟨oc, od, kV, doc, pm, an, cdv, ct, osl, e, lk, hcg⟩ := F.ex
  subst e
  exact LamX.pe_lamcall hg hm F.kp lk hcg hb Sg hNg hva (hG cdv) TB hcode hmT hu hr L hdef hbind (fun A outer s H E f c' hr => PE.ex fun p => hbody A outer s H E f c' hr p.1 p.2.1 p.2.2) hdb hd hcd
theorem hx_lam {CX : CXT} {P : Program} {w : World} {K : PySem.W.Frag} {mg : Str → Option Value} {base : Heap} {N : List Str} {q : Str} {sc : Scope} {f0 : Addr} {cd : Value} {A0 : Around} {o0 : List Env} {s0 : Shared} {H0 : Hp} {E0 : XK} {A : Around} {outer : List Env} {s : Shared} {H : Hp} {E : XK} {scope : Scope} {f c' : Addr} :
    Passes (L2.CX P w) (LamX.lamCx (cxOf CX P w K mg base N q sc f0 cd A0 o0 s0 H0 E0) A outer s H E scope f c') E := passes_call (takes_of rfl rfl rfl rfl) (fun _ _ _ _ h => h)
/-- what a clause wishes may lean on the number of slots -/
theorem takes_len {X : Cx} {W : WX} (tk : Takes X W) : Takes X (fun cls d σ H => σ.length = X.N.length → W cls d σ H) := fun u s x => by
  obtain ⟨a, B, sI, pins', σ', H', cls, d, e, J, h1, h2, h3, h4, h5, h6, h7⟩ := x
  exact tk u s ⟨a, B, sI, pins', σ', H', cls, d, e, J, h1, h2, h3, h4, h5, h6, h7 J.len⟩
/-! ### a def that makes lambdas, by its body -/
section
variable {P : Program} {w : World} {K : PySem.W.Frag} {mg : Str → Option Value} {base : Heap} {f c : Addr} {name qual : Str} {params : Arguments} {body : List Stmt} {scope : Scope} {dV kV doc pm ct oc : Value} {an od : Option Addr} {osl : Array (Option Value)} {N ps : List Str} {k m : Nat}
theorem ok_vC {g : Gb} {sp : VSp} {fd : FuncData} (e : fd = PySem.W.fnOf name qual params body scope dV kV doc pm an (.ref c) ct) (lk : K.lookup f = some ⟨oc, od, .func (PySem.W.fnOf name qual params body scope dV kV doc pm an (.ref c) ct), osl⟩) (hcd : PySem.W.codeIn K (.ref c) qual = true) (S : FnScope N ps scope) (hm : ps.length = m)
    (hb : ∀ (A : Around) (outer : List Env) (s : Shared) (H : Hp) (E : XK) (F0 : FH) (x : XQ), Room k (A.deeper (envOfC qual scope s.heap.objs.size f (.ref c))) →
      ∃ τ, PSs (cxOf (L2.CX P w) P w K mg base N qual scope f (.ref c) A outer s H E) body (lS ⟨g, F0, H, E, x⟩ τ) ∧ ∀ ts n Q, ts.length = m → sp ts n Q x → τ (ends Q) n (startT N ts)) : FnOk P w K mg base (L2.CX P w) (k + 1) f fd ps (lSp g m sp) := by
  subst e
  refine fn_of lk hcd S (fun vs H Q E h => by rw [hm]; exact h.len) (fun A outer s H vs Q' E hr h => ?_)
  obtain ⟨n, F0, ts, Q, x, hl, sb, r, q, kk, kx⟩ := h
  obtain ⟨τ, h1, h2⟩ := hb A outer s H E F0 x hr
  refine ⟨_, h1, startT N ts, n, F0, ends Q, start_rel ⟨fun C d fvs fts n F H f' s' xa rf hx => kx C d fvs fts n F H f' s' xa rf hx⟩ (Fr.refl _ _) sb r, h2 ts n Q hl q, ⟨fun ρ' n' F' σ' H' _ rel q' => ?_, fun _ _ _ _ _ _ _ q' => q'.elim, fun _ _ _ _ _ _ _ q' => q'.elim, fun v t n' F' H' f' s' r' q' => kk v t n' F' H' f' s' r' q'⟩⟩
  exact kk .non .non n' F' H' rel.fr rel.sub .non q'
end
end VL
/-! a list that will be changed in a tuple assignment; ints in lists and tuples -/
namespace VL
open PySem L2 DS PyProof.Rows
section
variable {X : Cx} {Γ : Cn} {e : Expr} {te ta tb : RE} {pos : Pos} {i j : Nat} {st : Stmt}
/-- x, y = e, [..], the pair made and taken apart -/
theorem vs_asgO2 {tl : RA} (h : PS X st (tAsg (tTup (tCons (lE Γ te) (tCons (tLst (lA Γ tl)) tNil))) (L2.gTup X.K 2 (L2.gCons (L2.gName i) (L2.gCons (L2.gName j) L2.gNil))))) : PS X st (lS Γ (vParO2 i j te tl)) :=
  PS.imp h fun D' σ H ⟨ρ, n, F, D, rel, h, ok⟩ => ⟨ρ, n, F, _, rel, h, fun v t n1 F1 H1 f1 s1 r1 q1 =>
    ⟨ρ, n1, F1, _, rel.go f1 s1, q1, fun vs ts n2 F2 H2 f2 s2 r2 q2 => ⟨by rw [r2.length]; exact q2.1, fun p hp => ⟨Nat.le_of_ble_eq_true rfl, fun q hq => ⟨q, _, rfl, .inl (.inl upd_same), rfl, _, _, rfl, _, _, rfl, rfl, by
      have rel2 := ((rel.go f1 s1).go f2 s2).set (i := i) (r1.mono f2.le)
      have rel3 := rel2.setO (i := j) (s1 := .ol ts) hp fun a b => ⟨p, vs, rfl, upd_same, a, b, r2⟩
      obtain ⟨f4, s4⟩ := alloc0 (o := .tup [v, .ref p]) rel3.sub hq
      exact ok.nx _ n2 F2 _ _ (f1.le.trans f2.le) (rel3.go f4 s4) q2.2⟩⟩⟩⟩⟩
theorem vs_par2 {tl : RA} (h : PS X st (tPar i j (lA Γ tl))) : PS X st (lS Γ (vPar i j tl)) := vs_of h fun _ _ _ h => par_in h
theorem vs_par3 {l : Nat} {tl : RA} (h : PS X st (tPar3 i j l (lA Γ tl))) : PS X st (lS Γ (vPar3 i j l tl)) := vs_of h fun _ _ _ h => par3_in h
/-- ints in a list or a tuple -/
def inIQ (neg : Bool) (x : Int) (ts : List Tr) (n : Nat) (Q : VQ) : Prop := ∃ l : List Int, ts = l.map Tr.int ∧ Q (.bl (if neg then !decide (x ∈ l) else decide (x ∈ l))) n
def vInI (neg : Bool) : VR2
  | .int x, .tup ts, n, Q => inIQ neg x ts n Q
  | .int x, .lst ts, n, Q => inIQ neg x ts n Q
  | _, _, _, _ => False
theorem inV_ints (x : Int) : ∀ l : List Int, inV (.int x) (l.map V.int) = decide (x ∈ l)
  | [] => rfl
  | y :: l => by
    have h := inV_ints x l
    unfold inV at h ⊢
    rw [List.map_cons, List.any_cons, h]
    show ((y == x) || _) = _
    by_cases q : y = x
    · subst q; simp
    · have q2 : ¬ x = y := fun z => q z.symm
      simp [q, q2]
theorem inI_rep {neg : Bool} {H : Hp} {Q' : VK} {x : Int} {ry : V} {ty : Tr} {n : Nat} {F : FH} {Q : VQ} (hK : X.K = Γ.g.K) (s : Sub Γ.g n F H) (r : Rep Γ.g F ry ty) (q : vInI neg (.int x) ty n Q) (k : Then Γ.g F H Q Q') : rIn X.K neg (.int x) ry H Q' := by
  cases r with
  | tup e r =>
    obtain ⟨l, rfl, q⟩ := q
    have e2 := r.ints
    subst e2
    refine ⟨_, _, rfl, .inr (by rw [hK]; exact sqT_sub s e), rfl, flat_ints l, k.here s (.bl _) ?_⟩
    rw [inV_ints]
    exact q
  | lst e r =>
    obtain ⟨l, rfl, q⟩ := q
    have e2 := r.ints
    subst e2
    refine ⟨_, _, rfl, .inl (.inl (.inl (s.at_ e))), rfl, flat_ints l, k.here s (.bl _) ?_⟩
    rw [inV_ints]
    exact q
  | _ => exact q.elim
theorem ov_inI (hK : X.K = Γ.g.K) : OpR X (compareOp .In) (lR Γ (vInI false)) := OpR.imp op_in_seq fun x y H Q' ⟨n, F, tx, ty, Q, ok, fr, s, rx, ry, q, k⟩ => by
  cases rx with
  | int x => exact inI_rep hK s ry q k
  | _ => exact q.elim
theorem ov_notInI (hK : X.K = Γ.g.K) : OpR X (compareOp .NotIn) (lR Γ (vInI true)) := OpR.imp op_notIn_seq fun x y H Q' ⟨n, F, tx, ty, Q, ok, fr, s, rx, ry, q, k⟩ => by
  cases rx with
  | int x => exact inI_rep hK s ry q k
  | _ => exact q.elim
end
end VL
/-! data that may be compared, and what == tells of it -/
namespace VL
open PySem L2 DS
structure okK (k : Nat) (t : Tr) : Prop where
  d : isD t = true
  c : PyData.canLay0 (toD t) = true
  h : (toD t).depth ≤ k
theorem okK.okD {k : Nat} {t : Tr} (o : okK k t) (e : k ≤ 64 := by decide) : VL.okD t := by
  refine ⟨o.d, ?_⟩
  unfold SeqAt.shaped
  rw [o.c, Bool.true_and]
  exact decide_eq_true (Nat.le_trans o.h e)
theorem okK.mono {k l : Nat} {t : Tr} (o : okK k t) (e : k ≤ l) : okK l t := ⟨o.d, o.c, Nat.le_trans o.h e⟩
theorem okK.int (i : Int) : okK 0 (.int i) := ⟨rfl, rfl, Nat.le_refl 0⟩
theorem okK.bl (i : Bool) : okK 0 (.bl i) := ⟨rfl, rfl, Nat.le_refl 0⟩
theorem okK.non : okK 0 .non := ⟨rfl, rfl, Nat.le_refl 0⟩
theorem okK.str {x : Str} (h : PyData.canLay0 (.str x) = true := by decide +kernel) : okK 0 (.str x) := ⟨rfl, h, Nat.le_refl 0⟩
theorem okKs {k : Nat} : ∀ {ts : List Tr}, (∀ t ∈ ts, okK k t) → isDs ts = true ∧ PyData.canLayAll0 (toDs ts) = true ∧ PyData.depthAll (toDs ts) ≤ k
  | [], _ => ⟨rfl, rfl, Nat.zero_le _⟩
  | t :: ts, h => by
    obtain ⟨h1, h2, h3⟩ := okKs (ts := ts) fun u m => h u (List.mem_cons_of_mem _ m)
    have o := h t (List.mem_cons_self ..)
    refine ⟨?_, ?_, ?_⟩
    · show (isD t && isDs ts) = true
      rw [o.d, h1]; rfl
    · show PyData.canLayAll0 (toD t :: toDs ts) = true
      unfold PyData.canLayAll0
      rw [o.c, h2]; rfl
    · show PyData.depthAll (toD t :: toDs ts) ≤ k
      unfold PyData.depthAll
      exact Nat.max_le.mpr ⟨o.h, h3⟩
theorem okK.tup {k : Nat} {ts : List Tr} (h : ∀ t ∈ ts, okK k t) : okK (k + 1) (.tup ts) := by
  obtain ⟨h1, h2, h3⟩ := okKs h
  refine ⟨h1, ?_, ?_⟩
  · show PyData.canLay0 (.tuple (toDs ts)) = true
    unfold PyData.canLay0
    exact h2
  · show PyData.depth (.tuple (toDs ts)) ≤ _
    unfold PyData.depth
    omega
theorem okK.lst {k : Nat} {ts : List Tr} (h : ∀ t ∈ ts, okK k t) : okK (k + 1) (.lst ts) := by
  obtain ⟨h1, h2, h3⟩ := okKs h
  refine ⟨h1, ?_, ?_⟩
  · show PyData.canLay0 (.list (toDs ts)) = true
    unfold PyData.canLay0
    exact h2
  · show PyData.depth (.list (toDs ts)) ≤ _
    unfold PyData.depth
    omega
theorem okK.nil {k : Nat} : ∀ t ∈ ([] : List Tr), okK k t := fun _ m => nomatch m
theorem okK.cons {k : Nat} {t : Tr} {ts : List Tr} (o : okK k t) (h : ∀ t ∈ ts, okK k t) : ∀ u ∈ t :: ts, okK k u := fun u m => by
  rcases List.mem_cons.mp m with rfl | m
  · exact o
  · exact h u m
theorem okK.ints {α : Type} (f : α → Int) (l : List α) : ∀ t ∈ l.map (fun a => Tr.int (f a)), okK 0 t := fun t m => by
  obtain ⟨a, _, rfl⟩ := List.mem_map.mp m
  exact .int _
theorem eqT_refl {t : Tr} (h : okD t) : eqT t t = true := SeqAt.eqv_refl _ (SeqAt.canLay_of_shaped h.2)
theorem eqT_int (i j : Int) : eqT (.int i) (.int j) = decide (i = j) := by
  show (i == j) = _
  by_cases h : i = j
  · subst h; simp
  · simp [h]
def eqTs (ts us : List Tr) : Bool := PyData.eqvAll (toDs ts) (toDs us)
theorem eqT_tup (ts us : List Tr) : eqT (.tup ts) (.tup us) = eqTs ts us := by
  unfold eqT eqTs
  show PyData.eqv (.tuple (toDs ts)) (.tuple (toDs us)) = _
  rw [PyData.eqv]
theorem eqT_lst (ts us : List Tr) : eqT (.lst ts) (.lst us) = eqTs ts us := by
  unfold eqT eqTs
  show PyData.eqv (.list (toDs ts)) (.list (toDs us)) = _
  rw [PyData.eqv]
theorem eqTs_cons (t u : Tr) (ts us : List Tr) : eqTs (t :: ts) (u :: us) = (eqT t u && eqTs ts us) := by
  unfold eqTs eqT
  show PyData.eqvAll (toD t :: toDs ts) (toD u :: toDs us) = _
  rw [PyData.eqvAll]
theorem eqTs_nil : eqTs [] [] = true := rfl
theorem eqT_ints : ∀ (l m : List Int), eqTs (l.map Tr.int) (m.map Tr.int) = decide (l = m)
  | [], [] => rfl
  | [], _ :: _ => rfl
  | _ :: _, [] => rfl
  | x :: l, y :: m => by
    rw [List.map_cons, List.map_cons, eqTs_cons, eqT_int, eqT_ints l m]
    by_cases h : x = y
    · subst h
      by_cases h2 : l = m
      · subst h2; simp
      · simp [h2]
    · simp [h]
theorem eqT_ii (a b c d : Int) : eqT (.tup [.int a, .int b]) (.tup [.int c, .int d]) = decide (a = c ∧ b = d) := by
  rw [eqT_tup, eqTs_cons, eqTs_cons, eqTs_nil, eqT_int, eqT_int, Bool.and_true]
  by_cases h : a = c <;> by_cases h2 : b = d <;> simp [h, h2]
theorem okK.ii (a b : Int) : okK 1 (.tup [.int a, .int b]) := .tup (.cons (.int a) (.cons (.int b) .nil))
end VL
/-! plain sums, numbers in the same house, floor sums -/
namespace MT
/-! sums -/
def sm (f : Nat → Int) : Nat → Int
  | 0 => 0
  | n + 1 => sm f n + f n
theorem sm_congr {f g : Nat → Int} : ∀ {n : Nat}, (∀ i, i < n → f i = g i) → sm f n = sm g n
  | 0, _ => rfl
  | n + 1, h => by
    show sm f n + f n = sm g n + g n
    rw [sm_congr fun i hi => h i (by omega), h n (by omega)]
theorem sm_add (f g : Nat → Int) : ∀ n, sm (fun i => f i + g i) n = sm f n + sm g n
  | 0 => rfl
  | n + 1 => by
    show sm (fun i => f i + g i) n + (f n + g n) = sm f n + f n + (sm g n + g n)
    rw [sm_add f g n]
    omega
theorem sm_mul (c : Int) (f : Nat → Int) : ∀ n, sm (fun i => c * f i) n = c * sm f n
  | 0 => (Int.mul_zero c).symm
  | n + 1 => by
    show sm (fun i => c * f i) n + c * f n = c * (sm f n + f n)
    rw [sm_mul c f n, Int.mul_add]
theorem sm_sub (f g : Nat → Int) (n : Nat) : sm (fun i => f i - g i) n = sm f n - sm g n := by
  have := sm_add (fun i => f i - g i) g n
  rw [sm_congr (g := f) fun i _ => by omega] at this
  omega
theorem sm_const (c : Int) : ∀ n : Nat, sm (fun _ => c) n = c * n
  | 0 => (Int.mul_zero c).symm
  | n + 1 => by
    show sm (fun _ => c) n + c = c * ((n + 1 : Nat) : Int)
    rw [sm_const c n]
    grind
theorem sm_zero (n : Nat) : sm (fun _ => 0) n = 0 := by rw [sm_const, Int.zero_mul]
theorem sm_comm (f : Nat → Nat → Int) (m : Nat) : ∀ n, sm (fun i => sm (f i) m) n = sm (fun j => sm (fun i => f i j) n) m
  | 0 => by
    show 0 = sm (fun _ => 0) m
    rw [sm_zero]
  | n + 1 => by
    show sm (fun i => sm (f i) m) n + sm (f n) m = sm (fun j => sm (fun i => f i j) n + f n j) m
    rw [sm_add (fun j => sm (fun i => f i j) n) (f n) m, sm_comm f m n]
theorem sm_app (f : Nat → Int) (m : Nat) : ∀ n, sm f (m + n) = sm f m + sm (fun i => f (m + i)) n
  | 0 => (Int.add_zero _).symm
  | n + 1 => by
    show sm f (m + n) + f (m + n) = sm f m + (sm (fun i => f (m + i)) n + f (m + n))
    rw [sm_app f m n]
    omega
theorem sm_blk (f : Nat → Int) (R : Nat) : ∀ n, sm f (R * n) = sm (fun j => sm (fun a => f (R * j + a)) R) n
  | 0 => rfl
  | n + 1 => by
    show sm f (R * n + R) = sm (fun j => sm (fun a => f (R * j + a)) R) n + sm (fun a => f (R * n + a)) R
    rw [sm_app, sm_blk f R n]
theorem sm_blk' (f : Nat → Int) (R n : Nat) : sm f (R * n) = sm (fun a => sm (fun j => f (R * j + a)) n) R := by
  rw [sm_blk, sm_comm]
theorem sm_at (v : Nat → Int) (c : Nat) : ∀ n, sm (fun j => if j = c then v j else 0) n = if c < n then v c else 0
  | 0 => (if_neg (Nat.not_lt_zero c)).symm
  | n + 1 => by
    show sm (fun j => if j = c then v j else 0) n + (if n = c then v n else 0) = _
    rw [sm_at v c n]
    by_cases h : n = c
    · subst h
      rw [if_neg (Nat.lt_irrefl _), if_pos rfl, if_pos (Nat.lt_succ_self _)]
      omega
    · rw [if_neg h]
      by_cases h2 : c < n
      · rw [if_pos h2, if_pos (by omega)]
        omega
      · rw [if_neg h2, if_neg (by omega)]
        rfl
theorem mod_iff {n x : Int} {i : Nat} (hn : 0 < n) (hi : (i : Int) < n) : i = (x % n).toNat ↔ n ∣ x - i := by
  have h0 := Int.emod_nonneg x (Int.ne_of_gt hn)
  have h1 := Int.emod_add_mul_ediv x n
  constructor
  · intro h
    exact ⟨x / n, by omega⟩
  · rintro ⟨k, hk⟩
    have : x % n = i := by
      rw [show x = i + n * k by omega, Int.add_mul_emod_self_left]
      exact Int.emod_eq_of_lt (by omega) hi
    omega
/-- a periodic function -/
def Per (f : Int → Int) (n : Int) : Prop := ∀ x y : Int, n ∣ x - y → f x = f y
theorem sm_perm {f : Int → Int} {n : Nat} (per : Per f n) {u v : Int} (c : Int) (h : (n : Int) ∣ u * v - 1) : sm (fun j => f (u * j + c)) n = sm (fun j => f j) n := by
  by_cases n0 : n = 0
  · subst n0; rfl
  have np : (0 : Int) < n := by omega
  have e1 : ∀ j, j < n → f (u * (j : Int) + c) = sm (fun i => if i = ((u * (j : Int) + c) % n).toNat then f i else 0) n := fun j _ => by
    have l := Int.emod_lt_of_pos (u * (j : Int) + c) np
    have g := Int.emod_nonneg (u * (j : Int) + c) (Int.ne_of_gt np)
    have d := Int.emod_add_mul_ediv (u * (j : Int) + c) n
    rw [sm_at (fun i => f i), if_pos (by omega)]
    refine per _ _ ⟨(u * (j : Int) + c) / n, ?_⟩
    omega
  rw [sm_congr e1, sm_comm]
  refine sm_congr fun i hi => ?_
  have e2 : ∀ j, j < n → (if i = ((u * (j : Int) + c) % n).toNat then f i else 0) = if j = ((v * (i - c)) % n).toNat then (fun _ => f i) j else 0 := fun j hj => by
    have q : i = ((u * (j : Int) + c) % n).toNat ↔ j = ((v * ((i : Int) - c)) % n).toNat := by
      rw [mod_iff np (by omega), mod_iff np (by omega)]
      obtain ⟨k, hk⟩ := h
      constructor
      · rintro ⟨m, hm⟩
        exact ⟨k * j - v * m, by grind⟩
      · rintro ⟨m, hm⟩
        exact ⟨k * (i - c) - u * m, by grind⟩
    by_cases z : i = ((u * (j : Int) + c) % n).toNat
    · rw [if_pos z, if_pos (q.mp z)]
    · rw [if_neg z, if_neg fun w => z (q.mpr w)]
  rw [sm_congr e2, sm_at]
  have l := Int.emod_lt_of_pos (v * ((i : Int) - c)) np
  have g := Int.emod_nonneg (v * ((i : Int) - c)) (Int.ne_of_gt np)
  rw [if_pos (by omega)]
theorem sm_shift {f : Int → Int} {n : Nat} (per : Per f n) (c : Int) : sm (fun j => f ((j : Int) + c)) n = sm (fun j => f j) n := by
  have := sm_perm per (u := 1) (v := 1) c (by simp)
  rw [← this]
  exact sm_congr fun i _ => by rw [Int.one_mul]
/-- a period's multiple -/
theorem sm_times {f : Int → Int} {n : Nat} (per : Per f n) (m : Nat) : sm (fun j => f j) (n * m) = m * sm (fun j => f j) n := by
  rw [sm_blk, sm_congr (g := fun _ => sm (fun j => f j) n), sm_const, Int.mul_comm]
  intro j _
  refine sm_congr fun a _ => per _ _ ⟨j, ?_⟩
  grind
theorem bez : ∀ (x y : Nat), ∃ a b : Int, a * x + b * y = (Nat.gcd x y : Int) := by
  intro x y
  induction x, y using Nat.gcd.induction with
  | H0 n => exact ⟨0, 1, by simp⟩
  | H1 m n hm ih =>
    obtain ⟨a, b, h⟩ := ih
    rw [Nat.gcd_rec]
    refine ⟨b - a * ((n / m : Nat) : Int), a, ?_⟩
    have e : ((n % m : Nat) : Int) = n - m * ((n / m : Nat) : Int) := by
      have := Nat.mod_add_div n m
      have : ((n % m + m * (n / m) : Nat) : Int) = n := by rw [this]
      rw [Int.natCast_add, Int.natCast_mul] at this
      omega
    rw [← h, e]
    grind
theorem bezI (x y : Int) : ∃ a b : Int, a * x + b * y = (Int.gcd x y : Int) := by
  obtain ⟨a, b, h⟩ := bez x.natAbs y.natAbs
  have s : ∀ z : Int, ∃ e : Int, (z.natAbs : Int) = e * z := fun z => by
    by_cases p : 0 ≤ z
    · exact ⟨1, by omega⟩
    · exact ⟨-1, by omega⟩
  obtain ⟨e, he⟩ := s x
  obtain ⟨d, hd⟩ := s y
  refine ⟨a * e, b * d, ?_⟩
  show _ = ((Nat.gcd x.natAbs y.natAbs : Nat) : Int)
  rw [← h, he, hd]
  grind
end MT
namespace MT
theorem hs_add {R H x m : Int} (hR : 0 < R) : (x + R * H * m) / R % H = x / R % H := by
  rw [Int.mul_assoc, Int.add_mul_ediv_left _ _ (Int.ne_of_gt hR), Int.add_mul_emod_self_left]
theorem md_split {R H x : Int} (hR : 0 < R) (hH : 0 < H) : x % (R * H) = R * (x / R % H) + x % R := by
  have e1 := Int.emod_add_mul_ediv x R
  have e2 := Int.emod_add_mul_ediv (x / R) H
  have a0 := Int.emod_nonneg x (Int.ne_of_gt hR)
  have a1 := Int.emod_lt_of_pos x hR
  have b0 := Int.emod_nonneg (x / R) (Int.ne_of_gt hH)
  have b1 := Int.emod_lt_of_pos (x / R) hH
  have e3 : x = (R * (x / R % H) + x % R) + R * H * (x / R / H) := by
    generalize x / R = q at *
    generalize q / H = t at *
    generalize q % H = r at *
    generalize x % R = y at *
    subst e2
    grind
  have l1 : 0 ≤ R * (x / R % H) := Int.mul_nonneg (by omega) b0
  have l2 : R * (x / R % H) ≤ R * (H - 1) := Int.mul_le_mul_of_nonneg_left (by omega) (by omega)
  have l3 : R * (H - 1) = R * H - R := by rw [Int.mul_sub, Int.mul_one]
  conv => lhs; rw [e3]
  rw [Int.add_mul_emod_self_left]
  exact Int.emod_eq_of_lt (by omega) (by omega)
theorem lt_iff {R H x : Int} (hR : 0 < R) (hH : 0 < H) : x % (R * H) < R ↔ x / R % H = 0 := by
  rw [md_split hR hH]
  have a0 := Int.emod_nonneg x (Int.ne_of_gt hR)
  have a1 := Int.emod_lt_of_pos x hR
  have b0 := Int.emod_nonneg (x / R) (Int.ne_of_gt hH)
  constructor
  · intro h
    refine Classical.byContradiction fun z => ?_
    have : R * 1 ≤ R * (x / R % H) := Int.mul_le_mul_of_nonneg_left (by omega) (by omega)
    omega
  · intro h
    rw [h]
    omega
/-- 1 where two courses are in the same house -/
def eH (R1 R2 H s1 s2 r1 r2 k : Int) : Int := if (s1 + r1 * k) / R1 % H = (s2 + r2 * k) / R2 % H then 1 else 0
theorem per_eH {R1 R2 H s1 s2 r1 r2 T : Int} (h1 : 0 < R1) (h2 : 0 < R2) (d1 : R1 * H ∣ r1 * T) (d2 : R2 * H ∣ r2 * T) : Per (eH R1 R2 H s1 s2 r1 r2) T := fun x y ⟨m, hm⟩ => by
  obtain ⟨a, ha⟩ := d1
  obtain ⟨b, hb⟩ := d2
  unfold eH
  rw [show s1 + r1 * x = s1 + r1 * y + R1 * H * (a * m) by grind, show s2 + r2 * x = s2 + r2 * y + R2 * H * (b * m) by grind, hs_add h1, hs_add h2]
/-- 1 where a number is below R modulo n -/
def ind (R n x : Int) : Int := if x % n < R then 1 else 0
theorem per_ind (R n : Int) : Per (ind R n) n := fun x y ⟨m, hm⟩ => by
  unfold ind
  rw [show x = y + n * m by omega, Int.add_mul_emod_self_left]
theorem sm_below (t : Int) : ∀ m : Nat, 0 ≤ t → t ≤ m → sm (fun i => if (i : Int) < t then 1 else 0) m = t
  | 0, h0, h1 => by show (0 : Int) = t; omega
  | m + 1, h0, h1 => by
    show sm (fun i => if (i : Int) < t then 1 else 0) m + (if (m : Int) < t then 1 else 0) = t
    by_cases h : t ≤ m
    · rw [sm_below t m h0 h, if_neg (by omega)]
      omega
    · have e : t = m + 1 := by omega
      rw [if_pos (by omega), sm_congr (g := fun _ => 1) (fun i hi => if_pos (by omega)), sm_const]
      omega
/-- the multiples of g, from C on, that lie below R modulo n -/
theorem ind_sum {R C : Int} {g m : Nat} (g0 : 0 < g) (R0 : 0 < R) (hR : R ≤ (g * m : Nat)) : sm (fun i => ind R (g * m : Nat) (C + g * (i : Int))) m = (R - 1 - C) / g - (-1 - C) / g := by
  have gp : (0 : Int) < g := by omega
  have c0 := Int.emod_nonneg C (Int.ne_of_gt gp)
  have c1 := Int.emod_lt_of_pos C gp
  have ce := Int.emod_add_mul_ediv C g
  have per : Per (fun y => ind R (g * m : Nat) (C % g + g * y)) m := fun x y ⟨k, hk⟩ => per_ind _ _ _ _ ⟨k, by
    rw [Int.natCast_mul]
    grind⟩
  have e1 : sm (fun i => ind R (g * m : Nat) (C + g * (i : Int))) m = sm (fun i => (fun y => ind R (g * m : Nat) (C % g + g * y)) ((i : Int) + C / g)) m := sm_congr fun i _ => by
    show ind _ _ _ = ind _ _ _
    rw [show C + (g : Int) * (i : Int) = C % g + g * ((i : Int) + C / g) by rw [Int.mul_add]; omega]
  rw [e1, sm_shift per]
  have d1 : (R - 1 - C) / g = (R - 1 - C % g) / g - C / g := by
    rw [show R - 1 - C = R - 1 - C % g + g * (-(C / g)) by rw [Int.mul_neg]; omega, Int.add_mul_ediv_left _ _ (Int.ne_of_gt gp)]
    omega
  have d2 : (-1 - C) / g = -1 - C / g := by
    have z : (-1 - C % g) / g = -1 := by
      rw [show -1 - C % g = (g - 1 - C % g) + g * (-1) by omega, Int.add_mul_ediv_left _ _ (Int.ne_of_gt gp), Int.ediv_eq_zero_of_lt (by omega) (by omega)]
      rfl
    rw [show -1 - C = -1 - C % g + g * (-(C / g)) by rw [Int.mul_neg]; omega, Int.add_mul_ediv_left _ _ (Int.ne_of_gt gp), z]
    omega
  rw [d1, d2]
  have t0 : -1 ≤ (R - 1 - C % g) / g := by
    rw [Int.le_ediv_iff_mul_le gp]
    omega
  have t1 : (R - 1 - C % g) / g < m := by
    rw [Int.ediv_lt_iff_lt_mul gp, Int.mul_comm]
    rw [Int.natCast_mul] at hR
    omega
  rw [show (R - 1 - C % g) / g - C / g - (-1 - C / g) = (R - 1 - C % g) / g + 1 by omega, ← sm_below ((R - 1 - C % g) / g + 1) m (by omega) (by omega)]
  refine sm_congr fun i hi => ?_
  show (if _ then _ else _) = _
  have b1 : (g : Int) * i ≤ g * (m - 1) := Int.mul_le_mul_of_nonneg_left (by omega) (by omega)
  have b0 : 0 ≤ (g : Int) * i := Int.mul_nonneg (by omega) (by omega)
  rw [Int.mul_sub, Int.mul_one] at b1
  rw [Int.emod_eq_of_lt (by omega) (by rw [Int.natCast_mul]; omega)]
  have q : C % g + g * (i : Int) < R ↔ (i : Int) < (R - 1 - C % g) / g + 1 := by
    rw [Int.lt_add_one_iff, Int.le_ediv_iff_mul_le gp, Int.mul_comm]
    omega
  by_cases z : C % g + g * (i : Int) < R
  · rw [if_pos z, if_pos (q.mp z)]
  · rw [if_neg z, if_neg fun w => z (q.mpr w)]
/-- the same along any progression -/
theorem ind_walk {R C D : Int} {n : Nat} (n0 : 0 < n) (R0 : 0 < R) (hR : R ≤ n) : sm (fun j => ind R n (C + D * (j : Int))) n = (Int.gcd D n) * ((R - 1 - C) / (Int.gcd D n) - (-1 - C) / (Int.gcd D n)) := by
  obtain ⟨a, b, hab⟩ := bezI D n
  have gd : ((Int.gcd D n : Nat) : Int) ∣ n := Int.gcd_dvd_right D n
  have gD : ((Int.gcd D n : Nat) : Int) ∣ D := Int.gcd_dvd_left D n
  have g0 : 0 < Int.gcd D n := Int.gcd_pos_of_ne_zero_right D (by omega)
  generalize Int.gcd D n = g at *
  obtain ⟨m, rfl⟩ := Int.natCast_dvd_natCast.mp gd
  obtain ⟨u, rfl⟩ := gD
  have gp : (g : Int) ≠ 0 := by omega
  have bz : u * a - 1 = m * (-b) := by
    have : (g : Int) * (a * u + b * m) = g * 1 := by
      rw [← hab, Int.natCast_mul]
      grind
    have := Int.eq_of_mul_eq_mul_left gp this
    grind
  rw [Nat.mul_comm g m, sm_blk', ← ind_sum (m := m) g0 R0 hR, ← sm_mul]
  have per : Per (fun y => ind R (g * m : Nat) (C + g * y)) m := fun x y ⟨k, hk⟩ => per_ind _ _ _ _ ⟨k, by
    rw [Int.natCast_mul]
    grind⟩
  have e1 : ∀ i, i < m → sm (fun j => ind R (m * g : Nat) (C + g * u * ((m * j + i : Nat) : Int))) g = (fun y => g * ind R (g * m : Nat) (C + g * y)) (u * (i : Int) + 0) := fun i _ => by
    rw [sm_congr (g := fun _ => ind R (g * m : Nat) (C + g * (u * (i : Int) + 0))) (fun j _ => ?_), sm_const, Int.mul_comm]
    rw [Nat.mul_comm m g]
    refine per_ind _ _ _ _ ⟨u * j, ?_⟩
    rw [Int.natCast_mul, Int.natCast_add, Int.natCast_mul]
    grind
  rw [sm_congr e1]
  refine sm_perm (f := fun y => g * ind R (g * m : Nat) (C + g * y)) (fun x y h => ?_) 0 ⟨_, bz⟩
  exact congrArg (fun z => (g : Int) * z) (per x y h)
/-- how many of all numbers below R1 * R2 * H are in the same house -/
theorem home {R1 R2 H : Nat} (h1 : 0 < R1) (h2 : 0 < R2) (h3 : 0 < H) {s1 s2 r1 r2 p q : Int} (bz : p * r1 + q * R1 = 1) :
    sm (fun k => eH R1 R2 H s1 s2 r1 r2 k) (R1 * (R2 * H)) = (Int.gcd (r2 * R1 - r1 * R2) (R2 * H : Nat)) * sm (fun a => ((R2 : Int) - 1 - (s2 + (p * r2 + q * R2) * ((a : Int) - s1))) / (Int.gcd (r2 * R1 - r1 * R2) (R2 * H : Nat)) - (-1 - (s2 + (p * r2 + q * R2) * ((a : Int) - s1))) / (Int.gcd (r2 * R1 - r1 * R2) (R2 * H : Nat))) R1 := by
  have i1 : (0 : Int) < R1 := by omega
  have i2 : (0 : Int) < R2 := by omega
  have i3 : (0 : Int) < H := by omega
  have perE : Per (eH R1 R2 H s1 s2 r1 r2) (R1 * (R2 * H)) := per_eH i1 i2 ⟨r1 * R2, by grind⟩ ⟨r2 * R1, by grind⟩
  have perJ : ∀ x, Per (fun y => eH R1 R2 H s1 s2 r1 r2 (x + R1 * y)) (R2 * H : Nat) := fun x y z ⟨k, hk⟩ => perE _ _ ⟨k, by
    rw [Int.natCast_mul] at hk
    grind⟩
  have perF : Per (fun x => sm (fun j => eH R1 R2 H s1 s2 r1 r2 (x + R1 * (j : Int))) (R2 * H)) R1 := fun x y ⟨k, hk⟩ => by
    show sm _ _ = sm _ _
    rw [← sm_shift (perJ y) k]
    refine sm_congr fun j _ => ?_
    show eH _ _ _ _ _ _ _ _ = eH _ _ _ _ _ _ _ _
    rw [show x + R1 * (j : Int) = y + R1 * ((j : Int) + k) by grind]
  rw [sm_blk', sm_congr (g := fun a => (fun x => sm (fun j => eH R1 R2 H s1 s2 r1 r2 (x + R1 * (j : Int))) (R2 * H)) (a : Int)) (fun a _ => sm_congr fun j _ => by
    rw [show ((R1 * j + a : Nat) : Int) = (a : Int) + R1 * (j : Int) by rw [Int.natCast_add, Int.natCast_mul]; omega]), ← sm_perm perF (u := p) (v := r1) (-(p * s1)) ⟨-q, by grind⟩, ← sm_mul]
  refine sm_congr fun a ha => ?_
  rw [← ind_walk (Nat.mul_pos h2 h3) i2 (by
    have : R2 * 1 ≤ R2 * H := Nat.mul_le_mul_left _ h3
    omega)]
  refine sm_congr fun j _ => ?_
  unfold eH ind
  rw [Int.natCast_mul]
  have a1 : (s1 + r1 * (p * (a : Int) + -(p * s1) + R1 * (j : Int))) / R1 = r1 * j - q * (a - s1) := by
    rw [show s1 + r1 * (p * (a : Int) + -(p * s1) + R1 * (j : Int)) = a + R1 * (r1 * j - q * (a - s1)) by grind, Int.add_mul_ediv_left _ _ (Int.ne_of_gt i1), Int.ediv_eq_zero_of_lt (by omega) (by omega), Int.zero_add]
  have a2 : s2 + (p * r2 + q * R2) * ((a : Int) - s1) + (r2 * R1 - r1 * R2) * (j : Int) = s2 + r2 * (p * (a : Int) + -(p * s1) + R1 * (j : Int)) + R2 * (-(r1 * j - q * (a - s1))) := by grind
  have key : (s1 + r1 * (p * (a : Int) + -(p * s1) + R1 * (j : Int))) / R1 % H = (s2 + r2 * (p * (a : Int) + -(p * s1) + R1 * (j : Int))) / R2 % H ↔ (s2 + (p * r2 + q * R2) * ((a : Int) - s1) + (r2 * R1 - r1 * R2) * (j : Int)) % (R2 * H) < R2 := by
    rw [lt_iff i2 i3, a1, a2, Int.add_mul_ediv_left _ _ (Int.ne_of_gt i2)]
    generalize (s2 + r2 * (p * (a : Int) + -(p * s1) + R1 * (j : Int))) / R2 = y
    generalize r1 * j - q * (a - s1) = x
    rw [Int.emod_eq_emod_iff_emod_sub_eq_zero, show y + -x = -(x - y) by omega]
    constructor
    · intro h
      exact Int.emod_eq_zero_of_dvd (Int.dvd_neg.mpr (Int.dvd_of_emod_eq_zero h))
    · intro h
      exact Int.emod_eq_zero_of_dvd (Int.dvd_neg.mp (Int.dvd_of_emod_eq_zero h))
  by_cases z : (s1 + r1 * (p * (a : Int) + -(p * s1) + R1 * (j : Int))) / R1 % H = (s2 + r2 * (p * (a : Int) + -(p * s1) + R1 * (j : Int))) / R2 % H
  · rw [if_pos z, if_pos (key.mp z)]
  · rw [if_neg z, if_neg fun w => z (key.mpr w)]
end MT
namespace MT
/-! floor sums -/
theorem sm_cut (f : Nat → Int) (t : Nat) : ∀ m : Nat, t ≤ m → sm (fun i => if i < t then f i else 0) m = sm f t
  | 0, h => by rw [Nat.le_zero.mp h]; rfl
  | m + 1, h => by
    show sm (fun i => if i < t then f i else 0) m + (if m < t then f m else 0) = sm f t
    by_cases q : t ≤ m
    · rw [sm_cut f t m q, if_neg (by omega)]
      omega
    · have e : t = m + 1 := by omega
      subst e
      rw [if_pos (by omega), sm_congr (g := f) (fun i hi => if_pos (by omega))]
      rfl
theorem sm_lin : ∀ m : Nat, 2 * sm (fun k => (k : Int)) m = m * (m - 1)
  | 0 => rfl
  | m + 1 => by
    show 2 * (sm (fun k => (k : Int)) m + m) = _
    rw [Int.mul_add, sm_lin m]
    grind
theorem sm_sq : ∀ m : Nat, 6 * sm (fun k => (k : Int) * k) m = (m - 1) * m * (2 * m - 1)
  | 0 => rfl
  | m + 1 => by
    show 6 * (sm (fun k => (k : Int) * k) m + m * m) = _
    rw [Int.mul_add, sm_sq m]
    grind
theorem sm_odd : ∀ m : Nat, sm (fun k => 2 * (k : Int) + 1) m = m * m
  | 0 => rfl
  | m + 1 => by
    show sm (fun k => 2 * (k : Int) + 1) m + (2 * m + 1) = _
    rw [sm_odd m]
    grind
def fl (r a b : Int) (k : Nat) : Int := (a * k + b) / r
def f1 (r a b : Int) (m : Nat) : Int := sm (fl r a b) m
def f2 (r a b : Int) (m : Nat) : Int := sm (fun k => (k : Int) * fl r a b k) m
def f3 (r a b : Int) (m : Nat) : Int := sm (fun k => fl r a b k * fl r a b k) m
section
variable {r a b : Int} {m : Nat}
theorem fl_split (hr : 0 < r) (k : Nat) : fl r a b k = a / r * k + b / r + fl r (a % r) (b % r) k := by
  unfold fl
  have e1 := Int.emod_add_mul_ediv a r
  have e2 := Int.emod_add_mul_ediv b r
  rw [show a * (k : Int) + b = a % r * k + b % r + r * (a / r * k + b / r) by grind, Int.add_mul_ediv_left _ _ (Int.ne_of_gt hr)]
  omega
theorem raise1 (hr : 0 < r) : f1 r a b m = f1 r (a % r) (b % r) m + a / r * (m * (m - 1) / 2) + b / r * m := by
  have e : (m : Int) * (m - 1) / 2 = sm (fun k => (k : Int)) m := by
    rw [← sm_lin, Int.mul_ediv_cancel_left _ (by decide)]
  unfold f1
  rw [e, ← sm_const, ← sm_mul, sm_congr (fun k _ => fl_split hr k), sm_add, sm_add]
  omega
theorem raise2 (hr : 0 < r) : f2 r a b m = f2 r (a % r) (b % r) m + a / r * ((m - 1) * m * (2 * m - 1) / 6) + b / r * (m * (m - 1) / 2) := by
  have e : (m : Int) * (m - 1) / 2 = sm (fun k => (k : Int)) m := by
    rw [← sm_lin, Int.mul_ediv_cancel_left _ (by decide)]
  have e2 : ((m : Int) - 1) * m * (2 * m - 1) / 6 = sm (fun k => (k : Int) * k) m := by
    rw [← sm_sq, Int.mul_ediv_cancel_left _ (by decide)]
  unfold f2
  rw [e, e2, ← sm_mul, ← sm_mul, ← sm_add, ← sm_add]
  refine sm_congr fun k _ => ?_
  rw [fl_split hr k]
  grind
theorem raise3 (hr : 0 < r) : f3 r a b m = f3 r (a % r) (b % r) m + (a / r * (a / r) * ((m - 1) * m * (2 * m - 1) / 6) + b / r * (b / r) * m + 2 * (a / r) * (b / r) * (m * (m - 1) / 2)) + 2 * (a / r) * f2 r (a % r) (b % r) m + 2 * (b / r) * f1 r (a % r) (b % r) m := by
  have e : (m : Int) * (m - 1) / 2 = sm (fun k => (k : Int)) m := by
    rw [← sm_lin, Int.mul_ediv_cancel_left _ (by decide)]
  have e2 : ((m : Int) - 1) * m * (2 * m - 1) / 6 = sm (fun k => (k : Int) * k) m := by
    rw [← sm_sq, Int.mul_ediv_cancel_left _ (by decide)]
  unfold f3 f2 f1
  rw [e, e2, ← sm_mul, ← sm_mul, ← sm_mul, ← sm_mul, ← sm_const, ← sm_add, ← sm_add, ← sm_add, ← sm_add, ← sm_add]
  refine sm_congr fun k _ => ?_
  rw [fl_split hr k]
  grind
/-- counting the points below a line the other way -/
theorem dbl {top : Nat} (A : Nat → Int) (C : Nat → Int) (hr : 0 < r) (a0 : 0 ≤ a) (ar : a < r) (b0 : 0 ≤ b) (br : b < r) (m0 : 0 < m) (ht : (top : Int) = (a * (m - 1) + b) / r) :
    sm (fun k => C k * sm A (fl r a b k).toNat) m = sm (fun i => A i * (sm C m - sm C (((r * (i : Int) + (r - b - 1)) / a).toNat + 1))) top := by
  have up : ∀ k, k < m → 0 ≤ fl r a b k ∧ fl r a b k ≤ top := fun k hk => by
    unfold fl
    have z0 : 0 ≤ a * (k : Int) := Int.mul_nonneg a0 (by omega)
    have z1 : a * (k : Int) ≤ a * (m - 1) := Int.mul_le_mul_of_nonneg_left (by omega) a0
    refine ⟨Int.ediv_nonneg (by omega) (by omega), ?_⟩
    rw [ht]
    exact Int.ediv_le_ediv hr (by omega)
  have e1 : ∀ k, k < m → C k * sm A (fl r a b k).toNat = sm (fun i => if i < (fl r a b k).toNat then C k * A i else 0) top := fun k hk => by
    have u := up k hk
    rw [← sm_cut A _ top (by omega), ← sm_mul]
    refine sm_congr fun i _ => ?_
    show C k * (if _ then _ else _) = _
    by_cases z : i < (fl r a b k).toNat
    · rw [if_pos z, if_pos z]
    · rw [if_neg z, if_neg z, Int.mul_zero]
  rw [sm_congr e1, sm_comm]
  refine sm_congr fun i hi => ?_
  have tp := Int.emod_add_mul_ediv (a * (m - 1) + b) r
  have tn := Int.emod_nonneg (a * (m - 1) + b) (Int.ne_of_gt hr)
  have li : r * ((i : Int) + 1) ≤ a * (m - 1) + b := by
    have : r * ((i : Int) + 1) ≤ r * top := Int.mul_le_mul_of_nonneg_left (by omega) (by omega)
    rw [ht] at this
    omega
  have ap : 0 < a := by
    refine Classical.byContradiction fun z => ?_
    have : a = 0 := by omega
    subst this
    have : r * 1 ≤ r * ((i : Int) + 1) := Int.mul_le_mul_of_nonneg_left (by omega) (by omega)
    omega
  have c0 : 0 ≤ (r * (i : Int) + (r - b - 1)) / a := Int.ediv_nonneg (by have := Int.mul_nonneg (Int.le_of_lt hr) (show (0 : Int) ≤ i by omega); omega) a0
  have c1 : (r * (i : Int) + (r - b - 1)) / a < m := by
    rw [Int.ediv_lt_iff_lt_mul ap]
    have y1 : (m : Int) * a = a * (m - 1) + a := by grind
    have y2 : r * ((i : Int) + 1) = r * i + r := by grind
    omega
  have key : ∀ k, i < (fl r a b k).toNat ↔ ¬ k < ((r * (i : Int) + (r - b - 1)) / a).toNat + 1 := fun k => by
    have q1 : i < (fl r a b k).toNat ↔ (i : Int) + 1 ≤ fl r a b k := by omega
    have q2 : (i : Int) + 1 ≤ fl r a b k ↔ r * (i : Int) + (r - b - 1) < (k : Int) * a := by
      unfold fl
      rw [Int.le_ediv_iff_mul_le hr, Int.mul_comm a, Int.mul_comm, Int.mul_add, Int.mul_one]
      omega
    have q3 : (r * (i : Int) + (r - b - 1)) / a < k ↔ r * (i : Int) + (r - b - 1) < (k : Int) * a := Int.ediv_lt_iff_lt_mul ap
    rw [q1, q2, ← q3]
    omega
  rw [← sm_cut C (((r * (i : Int) + (r - b - 1)) / a).toNat + 1) m (by omega), ← sm_sub, ← sm_mul]
  refine sm_congr fun k _ => ?_
  show _ = A i * (C k - if _ then _ else _)
  by_cases z : k < ((r * (i : Int) + (r - b - 1)) / a).toNat + 1
  · rw [if_neg (fun w => (key k).mp w z), if_pos z, Int.sub_self, Int.mul_zero]
  · rw [if_pos ((key k).mpr z), if_neg z, Int.sub_zero, Int.mul_comm]
theorem toNat_sm1 {x : Int} (h : 0 ≤ x) : sm (fun _ => 1) x.toNat = x := by rw [sm_const]; omega
variable {top : Nat}
theorem fold_c (hr : 0 < r) (b0 : 0 ≤ b) (br : b < r) (a0 : 0 ≤ a) (i : Nat) : 0 ≤ (r * (i : Int) + (r - b - 1)) / a :=
  Int.ediv_nonneg (by have := Int.mul_nonneg (Int.le_of_lt hr) (show (0 : Int) ≤ i by omega); omega) a0
theorem fl_nn (hr : 0 < r) (a0 : 0 ≤ a) (b0 : 0 ≤ b) (k : Nat) : 0 ≤ fl r a b k := by
  have z0 : 0 ≤ a * (k : Int) := Int.mul_nonneg a0 (by omega)
  exact Int.ediv_nonneg (by omega) (by omega)
theorem fold1 (hr : 0 < r) (a0 : 0 ≤ a) (ar : a < r) (b0 : 0 ≤ b) (br : b < r) (m0 : 0 < m) (ht : (top : Int) = (a * (m - 1) + b) / r) : f1 r a b m = (m - 1) * top - f1 a r (r - b - 1) top := by
  have h := dbl (fun _ => 1) (fun _ => 1) hr a0 ar b0 br m0 ht
  have e1 : sm (fun k => 1 * sm (fun _ => 1) (fl r a b k).toNat) m = f1 r a b m := sm_congr fun k _ => by rw [toNat_sm1 (fl_nn hr a0 b0 k), Int.one_mul]
  rw [← e1, h, ← sm_const]
  unfold f1
  rw [← sm_sub]
  refine sm_congr fun i _ => ?_
  have := fold_c hr b0 br a0 i
  rw [sm_const, sm_const]
  unfold fl
  omega
theorem fold2 (hr : 0 < r) (a0 : 0 ≤ a) (ar : a < r) (b0 : 0 ≤ b) (br : b < r) (m0 : 0 < m) (ht : (top : Int) = (a * (m - 1) + b) / r) : 2 * f2 r a b m = top * (m - 1) * m - f3 a r (r - b - 1) top - f1 a r (r - b - 1) top := by
  have h := dbl (fun _ => 1) (fun k => (k : Int)) hr a0 ar b0 br m0 ht
  have e1 : sm (fun k => (k : Int) * sm (fun _ => 1) (fl r a b k).toNat) m = f2 r a b m := sm_congr fun k _ => by rw [toNat_sm1 (fl_nn hr a0 b0 k)]
  rw [← e1, h, ← sm_mul, show (top : Int) * (m - 1) * m = ((m - 1) * m) * top by grind, ← sm_const]
  unfold f3 f1
  rw [← sm_sub, ← sm_sub]
  refine sm_congr fun i _ => ?_
  have c := fold_c hr b0 br a0 i
  have l1 := sm_lin m
  have l2 := sm_lin (((r * (i : Int) + (r - b - 1)) / a).toNat + 1)
  have e : ((((r * (i : Int) + (r - b - 1)) / a).toNat + 1 : Nat) : Int) = (r * (i : Int) + (r - b - 1)) / a + 1 := by omega
  rw [e] at l2
  unfold fl
  rw [Int.one_mul, Int.mul_sub, l1, l2]
  grind
theorem fold3 (hr : 0 < r) (a0 : 0 ≤ a) (ar : a < r) (b0 : 0 ≤ b) (br : b < r) (m0 : 0 < m) (ht : (top : Int) = (a * (m - 1) + b) / r) : f3 r a b m = (m - 1) * (top * top) - 2 * f2 a r (r - b - 1) top - f1 a r (r - b - 1) top := by
  have h := dbl (fun i => 2 * (i : Int) + 1) (fun _ => 1) hr a0 ar b0 br m0 ht
  have e1 : sm (fun k => 1 * sm (fun i => 2 * (i : Int) + 1) (fl r a b k).toNat) m = f3 r a b m := sm_congr fun k _ => by
    rw [sm_odd, Int.one_mul, Int.toNat_of_nonneg (fl_nn hr a0 b0 k)]
  rw [← e1, h, ← sm_odd top, ← sm_mul]
  unfold f2 f1
  rw [← sm_mul, ← sm_sub, ← sm_sub]
  refine sm_congr fun i _ => ?_
  have c := fold_c hr b0 br a0 i
  rw [sm_const, sm_const, show ((((r * (i : Int) + (r - b - 1)) / a).toNat + 1 : Nat) : Int) = (r * (i : Int) + (r - b - 1)) / a + 1 by omega]
  unfold fl
  grind
end
end MT
/-! courses -/
namespace MT
open DS VL
def nR (R H : Int) : Int := if 1 < H then R else 1
def tnd (R H r : Int) : Prop := H = 2 ∧ R < r % (nR R H * H)
instance (R H r : Int) : Decidable (tnd R H r) := inferInstanceAs (Decidable (_ ∧ _))
def nS (R H s r : Int) : Int := (if tnd R H r then R - 1 - s else s) % (nR R H * H)
def nr (R H r : Int) : Int := (if tnd R H r then -r else r) % (nR R H * H)
section
variable {R H s r k : Int}
theorem nR_pos (hR : 0 < R) : 0 < nR R H := by unfold nR; split <;> omega
theorem hs_mod {M a b : Int} (hR : 0 < R) (e : M = R * H) : (a % M + b % M * k) / R % H = (a + b * k) / R % H := by
  have e1 := Int.emod_add_mul_ediv a M
  have e2 := Int.emod_add_mul_ediv b M
  rw [show a + b * k = (a % M + b % M * k) + R * H * (a / M + b / M * k) by grind, hs_add hR]
theorem norm_house (hR : 0 < R) (hH : 0 < H) (k : Int) : (nS R H s r + nr R H r * k) / nR R H % H = (s + r * k) / R % H := by
  unfold nS nr
  rw [hs_mod (nR_pos hR) rfl]
  by_cases h1 : 1 < H
  · have eR : nR R H = R := if_pos h1
    rw [eR]
    by_cases t : tnd R H r
    · rw [if_pos t, if_pos t]
      obtain ⟨h2, _⟩ := t
      subst h2
      have d : (R - 1 - s + -r * k) / R = -((s + r * k) / R) := by
        have e1 := Int.emod_add_mul_ediv (s + r * k) R
        have a0 := Int.emod_nonneg (s + r * k) (Int.ne_of_gt hR)
        have a1 := Int.emod_lt_of_pos (s + r * k) hR
        rw [show R - 1 - s + -r * k = (R - 1 - (s + r * k) % R) + R * (-((s + r * k) / R)) by grind, Int.add_mul_ediv_left _ _ (Int.ne_of_gt hR), Int.ediv_eq_zero_of_lt (by omega) (by omega), Int.zero_add]
      rw [d]
      omega
    · rw [if_neg t, if_neg t]
  · have : H = 1 := by omega
    subst this
    rw [Int.emod_one, Int.emod_one]
theorem gcd_mod {a b M : Int} (d : b ∣ M) : Int.gcd (a % M) b = Int.gcd a b := by
  obtain ⟨c, hc⟩ := d
  have e := Int.emod_add_mul_ediv a M
  rw [show a % M = a + b * (-(c * (a / M))) by rw [hc] at e ⊢; grind]
  exact Int.gcd_add_mul_left_left ..
theorem nr_gcd {b : Int} (d : b ∣ nR R H * H) : Int.gcd (nr R H r) b = Int.gcd r b := by
  unfold nr
  rw [gcd_mod d]
  split
  · exact Int.neg_gcd ..
  · rfl
theorem nr_nn (hR : 0 < R) (hH : 0 < H) : 0 ≤ nr R H r := Int.emod_nonneg _ (Int.ne_of_gt (Int.mul_pos (nR_pos hR) hH))
theorem nr_lt (hR : 0 < R) (hH : 0 < H) : nr R H r < nR R H * H := Int.emod_lt_of_pos _ (Int.mul_pos (nR_pos hR) hH)
theorem nS_nn (hR : 0 < R) (hH : 0 < H) : 0 ≤ nS R H s r := Int.emod_nonneg _ (Int.ne_of_gt (Int.mul_pos (nR_pos hR) hH))
theorem nS_lt (hR : 0 < R) (hH : 0 < H) : nS R H s r < nR R H * H := Int.emod_lt_of_pos _ (Int.mul_pos (nR_pos hR) hH)
theorem nr_one (g : Int.gcd r R = 1) : Int.gcd (nr R H r) (nR R H) = 1 := by
  rw [nr_gcd ⟨H, rfl⟩]
  unfold nR
  split
  · exact g
  · exact Int.gcd_one
end
/-- the least common multiple, as it is reckoned -/
def lc (x y : Int) : Int := x / (Int.gcd x y) * y
/-- the turn of a course -/
def tu (R H r : Int) : Int := R * H / (Int.gcd r (R * H))
theorem lc_nat (x y : Nat) : lc x y = (Nat.lcm x y : Nat) := by
  unfold lc
  show (x : Int) / ((Nat.gcd x y : Nat) : Int) * y = _
  rw [← Int.natCast_ediv, ← Int.natCast_mul]
  congr 1
  unfold Nat.lcm
  rw [Nat.mul_comm, Nat.mul_comm x y, Nat.mul_div_assoc _ (Nat.gcd_dvd_left x y)]
theorem tu_nn {R H r : Int} (hR : 0 < R) (hH : 0 < H) : 0 < tu R H r ∧ tu R H r * (Int.gcd r (R * H)) = R * H := by
  have p := Int.mul_pos hR hH
  have d : ((Int.gcd r (R * H) : Nat) : Int) ∣ R * H := Int.gcd_dvd_right ..
  have g0 : (0 : Int) < (Int.gcd r (R * H) : Nat) := by
    have := Int.gcd_pos_of_ne_zero_right r (Int.ne_of_gt p)
    omega
  refine ⟨Int.ediv_pos_of_pos_of_dvd p (Int.le_of_lt g0) d, Int.ediv_mul_cancel d⟩
theorem lc_dvd {x y L : Int} (hx : 0 < x) (hy : 0 < y) (hL : 0 < L) (a : x ∣ L) (b : y ∣ L) : 0 < lc x y ∧ lc x y ∣ L ∧ x ∣ lc x y ∧ y ∣ lc x y := by
  obtain ⟨x, rfl⟩ := Int.eq_ofNat_of_zero_le (Int.le_of_lt hx)
  obtain ⟨y, rfl⟩ := Int.eq_ofNat_of_zero_le (Int.le_of_lt hy)
  obtain ⟨L, rfl⟩ := Int.eq_ofNat_of_zero_le (Int.le_of_lt hL)
  rw [lc_nat]
  refine ⟨?_, Int.natCast_dvd_natCast.mpr (Nat.lcm_dvd (Int.natCast_dvd_natCast.mp a) (Int.natCast_dvd_natCast.mp b)), Int.natCast_dvd_natCast.mpr (Nat.dvd_lcm_left ..), Int.natCast_dvd_natCast.mpr (Nat.dvd_lcm_right ..)⟩
  have := Nat.lcm_pos (m := x) (n := y) (by omega) (by omega)
  omega
/-- how many numbers below T are in the same house -/
def cnt (R1 R2 H s1 s2 r1 r2 T : Int) : Int := sm (fun k => eH R1 R2 H s1 s2 r1 r2 k) T.toNat
theorem cnt_congr {R1 R2 H s1 s2 r1 r2 R1' R2' s1' s2' r1' r2' T : Int} (h1 : ∀ k : Int, (s1 + r1 * k) / R1 % H = (s1' + r1' * k) / R1' % H) (h2 : ∀ k : Int, (s2 + r2 * k) / R2 % H = (s2' + r2' * k) / R2' % H) : cnt R1 R2 H s1 s2 r1 r2 T = cnt R1' R2' H s1' s2' r1' r2' T := sm_congr fun k _ => by
  unfold eH
  rw [h1, h2]
theorem tu_per {R H r T : Int} (hR : 0 < R) (hH : 0 < H) (d : tu R H r ∣ T) : R * H ∣ r * T := by
  obtain ⟨c, rfl⟩ := d
  obtain ⟨e, he⟩ : ((Int.gcd r (R * H) : Nat) : Int) ∣ r := Int.gcd_dvd_left ..
  have := (tu_nn (r := r) hR hH).2
  refine ⟨e * c, ?_⟩
  generalize tu R H r = t at *
  generalize ((Int.gcd r (R * H) : Nat) : Int) = g at *
  rw [← this, he]
  grind
/-- what stays in a joint turn, from what stays among all numbers below R1 * R2 * H -/
theorem stay {R1 R2 H s1 s2 r1 r2 : Int} (h1 : 0 < R1) (h2 : 0 < R2) (h3 : 0 < H) : lc (tu R1 H r1) (tu R2 H r2) * cnt R1 R2 H s1 s2 r1 r2 (R1 * (R2 * H)) / (R1 * R2 * H) = cnt R1 R2 H s1 s2 r1 r2 (lc (tu R1 H r1) (tu R2 H r2)) ∧ 0 < lc (tu R1 H r1) (tu R2 H r2) ∧ lc (tu R1 H r1) (tu R2 H r2) ∣ R1 * R2 * H := by
  have a1 := tu_nn (r := r1) h1 h3
  have a2 := tu_nn (r := r2) h2 h3
  have L0 := Int.mul_pos (Int.mul_pos h1 h2) h3
  obtain ⟨T0, Td, d1, d2⟩ := lc_dvd a1.1 a2.1 L0 ⟨Int.gcd r1 (R1 * H) * R2, by rw [← Int.mul_assoc, a1.2]; grind⟩ ⟨Int.gcd r2 (R2 * H) * R1, by rw [← Int.mul_assoc, a2.2]; grind⟩
  refine ⟨?_, T0, Td⟩
  have per := per_eH (s1 := s1) (s2 := s2) h1 h2 (tu_per h1 h3 d1) (tu_per h2 h3 d2)
  generalize lc (tu R1 H r1) (tu R2 H r2) = T at *
  obtain ⟨m, hm⟩ := Td
  obtain ⟨T, rfl⟩ := Int.eq_ofNat_of_zero_le (Int.le_of_lt T0)
  have m0 : 0 < m := by
    refine Classical.byContradiction fun z => ?_
    have := Int.mul_le_mul_of_nonneg_left (show m ≤ 0 by omega) (Int.le_of_lt T0)
    omega
  obtain ⟨m, rfl⟩ := Int.eq_ofNat_of_zero_le (Int.le_of_lt m0)
  have e : (R1 * (R2 * H)).toNat = T * m := by
    rw [← Int.mul_assoc, hm, ← Int.natCast_mul]
    rfl
  unfold cnt
  rw [e, sm_times per, Int.toNat_natCast, hm, ← Int.mul_assoc, Int.mul_ediv_cancel_left _ (by rw [← hm]; omega)]
end MT
/-! near and far -/
namespace MT
open DS VL
theorem tu_norm {R H r : Int} (h : 1 < H) : tu (nR R H) H (nr R H r) = tu R H r := by
  unfold tu
  rw [nr_gcd ⟨1, (Int.mul_one _).symm⟩, show nR R H = R from if_pos h]
theorem tu_one {R r : Int} : tu (nR R 1) 1 (nr R 1 r) = 1 := by
  unfold tu
  rw [show nR R 1 = 1 from if_neg (by omega), Int.mul_one, Int.gcd_one]
  rfl
theorem lc_one : lc 1 1 = 1 := by rw [show (1 : Int) = ((1 : Nat) : Int) from rfl, lc_nat]; rfl
/-- the joint turn as the law reckons it -/
def jt (H R1 r1 R2 r2 : Int) : Int := if H = 1 then 1 else lc (tu R1 H r1) (tu R2 H r2)
theorem near_turn {H R1 r1 R2 r2 : Int} (hH : 0 < H) : lc (tu (nR R1 H) H (nr R1 H r1)) (tu (nR R2 H) H (nr R2 H r2)) = jt H R1 r1 R2 r2 := by
  unfold jt
  by_cases h : H = 1
  · subst h
    rw [if_pos rfl, tu_one, tu_one, lc_one]
  · rw [if_neg h, tu_norm (by omega), tu_norm (by omega)]
theorem near_cnt {H R1 s1 r1 R2 s2 r2 T : Int} (hH : 0 < H) (h1 : 0 < R1) (h2 : 0 < R2) : cnt (nR R1 H) (nR R2 H) H (nS R1 H s1 r1) (nS R2 H s2 r2) (nr R1 H r1) (nr R2 H r2) T = cnt R1 R2 H s1 s2 r1 r2 T :=
  cnt_congr (norm_house h1 hH) (norm_house h2 hH)
theorem tu_unit {R H u : Int} (g : Int.gcd u (R * H) = 1) : tu R H u = R * H := by
  unfold tu
  rw [g]
  exact Int.ediv_one _
theorem lc_mul {x y t : Int} (hx : 0 < x) (hy : 0 < y) (ht : 0 < t) : lc (x * t) (y * t) = lc x y * t := by
  obtain ⟨x, rfl⟩ := Int.eq_ofNat_of_zero_le (Int.le_of_lt hx)
  obtain ⟨y, rfl⟩ := Int.eq_ofNat_of_zero_le (Int.le_of_lt hy)
  obtain ⟨t, rfl⟩ := Int.eq_ofNat_of_zero_le (Int.le_of_lt ht)
  rw [← Int.natCast_mul, ← Int.natCast_mul, lc_nat, lc_nat, Nat.lcm_mul_right, Int.natCast_mul]
theorem far_cnt {R1 R2 H s1 s2 t u m : Int} {J : Nat} (h1 : 0 < R1) (h2 : 0 < R2) (h3 : 0 < H) (ht : 0 < t) (d1 : R1 * H ∣ J) (d2 : R2 * H ∣ J) (g : Int.gcd u (J * t) = 1) :
    cnt (R1 * t) (R2 * t) H (s1 * t + m) (s2 * t + m) u u (J * t) = t * cnt R1 R2 H s1 s2 1 1 J := by
  obtain ⟨t, rfl⟩ := Int.eq_ofNat_of_zero_le (Int.le_of_lt ht)
  have p1 := Int.mul_pos h1 ht
  have p2 := Int.mul_pos h2 ht
  have per := per_eH (H := H) (s1 := s1 * t) (s2 := s2 * t) (r1 := 1) (r2 := 1) (T := (t * J : Nat)) p1 p2 (by
    obtain ⟨c, hc⟩ := d1
    exact ⟨c, by rw [Int.natCast_mul, hc]; grind⟩) (by
    obtain ⟨c, hc⟩ := d2
    exact ⟨c, by rw [Int.natCast_mul, hc]; grind⟩)
  obtain ⟨a, b, hab⟩ := bezI u (J * t)
  rw [g] at hab
  unfold cnt
  rw [show (J : Int) * (t : Int) = ((t * J : Nat) : Int) by rw [Int.natCast_mul, Int.mul_comm], Int.toNat_natCast, Int.toNat_natCast]
  have e1 : ∀ k, k < t * J → eH (R1 * t) (R2 * t) H (s1 * t + m) (s2 * t + m) u u (k : Int) = eH (R1 * t) (R2 * t) H (s1 * t) (s2 * t) 1 1 (u * (k : Int) + m) := fun k _ => by
    unfold eH
    rw [show s1 * (t : Int) + m + u * k = s1 * t + 1 * (u * (k : Int) + m) by omega, show s2 * (t : Int) + m + u * k = s2 * t + 1 * (u * (k : Int) + m) by omega]
  rw [sm_congr e1, sm_perm per (u := u) (v := a) m ⟨-b, by rw [Int.natCast_mul]; grind⟩, sm_blk, ← sm_mul]
  refine sm_congr fun j _ => ?_
  rw [sm_congr (g := fun _ => eH R1 R2 H s1 s2 1 1 j), sm_const, Int.mul_comm]
  intro i hi
  have hs : ∀ s R : Int, 0 < R → (s * t + 1 * ((t * j + i : Nat) : Int)) / (R * t) = (s + 1 * (j : Int)) / R := fun s R hR => by
    rw [Int.mul_comm R, ← Int.ediv_ediv_of_nonneg (Int.le_of_lt ht)]
    congr 1
    rw [Int.natCast_add, Int.natCast_mul, show s * (t : Int) + 1 * ((t : Int) * j + i) = i + t * (s + 1 * (j : Int)) by grind, Int.add_mul_ediv_left _ _ (Int.ne_of_gt ht), Int.ediv_eq_zero_of_lt (by omega) (by omega), Int.zero_add]
  unfold eH
  rw [hs s1 R1 h1, hs s2 R2 h2]
theorem gcd_of_dvd {u x y : Int} (g : Int.gcd u y = 1) (d : x ∣ y) : Int.gcd u x = 1 := by
  have h : Int.gcd u x ∣ Int.gcd u y := Int.dvd_gcd (Int.gcd_dvd_left ..) (Int.dvd_trans (Int.gcd_dvd_right ..) d)
  rw [g] at h
  exact Nat.dvd_one.mp h
/-- from far -/
theorem far {R1 R2 H s1 s2 t u m : Int} (h1 : 0 < R1) (h2 : 0 < R2) (h3 : 1 < H) (ht : 0 < t) (g : Int.gcd u (t * R1 * R2 * H) = 1) :
    lc (tu (nR (R1 * t) H) H (nr (R1 * t) H u)) (tu (nR (R2 * t) H) H (nr (R2 * t) H u)) = jt H R1 1 R2 1 * t ∧
    cnt (nR (R1 * t) H) (nR (R2 * t) H) H (nS (R1 * t) H (s1 * t + m) u) (nS (R2 * t) H (s2 * t + m) u) (nr (R1 * t) H u) (nr (R2 * t) H u) (jt H R1 1 R2 1 * t) = t * cnt R1 R2 H s1 s2 1 1 (jt H R1 1 R2 1) := by
  have H0 : 0 < H := by omega
  have a1 : tu R1 H 1 = R1 * H := tu_unit (Int.one_gcd ..)
  have a2 : tu R2 H 1 = R2 * H := tu_unit (Int.one_gcd ..)
  have b1 : tu (R1 * t) H u = R1 * H * t := by
    rw [tu_unit (gcd_of_dvd g ⟨R2, by grind⟩)]
    grind
  have b2 : tu (R2 * t) H u = R2 * H * t := by
    rw [tu_unit (gcd_of_dvd g ⟨R1, by grind⟩)]
    grind
  have ej : jt H R1 1 R2 1 = lc (R1 * H) (R2 * H) := by
    unfold jt
    rw [if_neg (by omega), a1, a2]
  have p1 := Int.mul_pos h1 H0
  have p2 := Int.mul_pos h2 H0
  obtain ⟨l0, l1, l2, l3⟩ := lc_dvd p1 p2 (Int.mul_pos (Int.mul_pos h1 h2) H0) ⟨R2, by grind⟩ ⟨R1, by grind⟩
  rw [tu_norm h3, tu_norm h3, b1, b2, lc_mul p1 p2 ht, ej]
  refine ⟨rfl, ?_⟩
  rw [near_cnt H0 (Int.mul_pos h1 ht) (Int.mul_pos h2 ht)]
  generalize lc (R1 * H) (R2 * H) = J at *
  obtain ⟨J, rfl⟩ := Int.eq_ofNat_of_zero_le (Int.le_of_lt l0)
  refine far_cnt h1 h2 H0 ht l2 l3 (gcd_of_dvd g ?_)
  obtain ⟨c, hc⟩ := l1
  exact ⟨c, by rw [show t * R1 * R2 * H = t * (R1 * R2 * H) by grind, hc]; grind⟩
end MT
/-! shifts of deals: how many items are sent in a turn -/
namespace MT
/-- a periodic function along a progression -/
theorem walk_gcd {f : Int → Int} {n : Nat} (n0 : 0 < n) (per : Per f n) (C D : Int) : ∃ m : Nat, n = Int.gcd D n * m ∧ 0 < m ∧ sm (fun j => f (C + D * (j : Int))) n = (Int.gcd D n) * sm (fun i => f (C + (Int.gcd D n) * (i : Int))) m := by
  obtain ⟨a, b, hab⟩ := bezI D n
  have gd : ((Int.gcd D n : Nat) : Int) ∣ n := Int.gcd_dvd_right D n
  have gD : ((Int.gcd D n : Nat) : Int) ∣ D := Int.gcd_dvd_left D n
  have g0 : 0 < Int.gcd D n := Int.gcd_pos_of_ne_zero_right D (by omega)
  generalize Int.gcd D n = g at *
  obtain ⟨m, rfl⟩ := Int.natCast_dvd_natCast.mp gd
  obtain ⟨u, rfl⟩ := gD
  have gp : (g : Int) ≠ 0 := by omega
  have m0 : 0 < m := Nat.pos_of_mul_pos_left n0
  refine ⟨m, rfl, m0, ?_⟩
  have bz : u * a - 1 = m * (-b) := by
    have : (g : Int) * (a * u + b * m) = g * 1 := by
      rw [← hab, Int.natCast_mul]
      grind
    have := Int.eq_of_mul_eq_mul_left gp this
    grind
  have per' : Per (fun y => f (C + g * y)) m := fun x y ⟨k, hk⟩ => per _ _ ⟨k, by
    rw [Int.natCast_mul]
    grind⟩
  rw [Nat.mul_comm g m, sm_blk', ← sm_perm per' (u := u) (v := a) 0 ⟨_, bz⟩, ← sm_mul]
  refine sm_congr fun i _ => ?_
  rw [sm_congr (g := fun _ => f (C + g * (u * (i : Int) + 0))) (fun j _ => ?_), sm_const, Int.mul_comm]
  refine per _ _ ⟨u * j, ?_⟩
  rw [Int.natCast_mul, Int.natCast_add, Int.natCast_mul]
  grind
theorem sm_above {m : Nat} {t : Int} (h0 : 0 ≤ t) (h1 : t ≤ m) : sm (fun i => if t ≤ (i : Int) then 1 else 0) m = m - t := by
  have e := sm_add (fun i => if (i : Int) < t then 1 else 0) (fun i => if t ≤ (i : Int) then 1 else 0) m
  rw [sm_congr (g := fun _ => 1) (fun i _ => by
    by_cases z : (i : Int) < t
    · rw [if_pos z, if_neg (by omega)]; rfl
    · rw [if_neg z, if_pos (by omega)]; rfl), sm_const, sm_below t m h0 h1] at e
  omega
/-- how far two places are apart on a ring -/
def near (w ring : Int) : Int := if w < ring - w then w else ring - w
theorem cnt_near {m h : Nat} (m0 : 0 < m) (h2 : 2 ≤ h) (a : Int) : sm (fun q => if ((q : Int) + a) / m % h = 0 then 1 else 0) m = m - (if (m : Int) < near (a % (m * h)) (m * h) then (m : Int) else near (a % (m * h)) (m * h)) := by
  have mp : (0 : Int) < m := by omega
  have hp : (0 : Int) < h := by omega
  have rp := Int.mul_pos mp hp
  have r2 : (m : Int) * 2 ≤ m * h := Int.mul_le_mul_of_nonneg_left (by omega) (by omega)
  have w0 := Int.emod_nonneg a (Int.ne_of_gt rp)
  have w1 := Int.emod_lt_of_pos a rp
  have we := Int.emod_add_mul_ediv a (m * h)
  have key : ∀ q : Nat, q < m → (((q : Int) + a) / m % h = 0 ↔ ((q : Int) + a % (m * h)) % (m * h) < m) := fun q _ => by
    rw [← lt_iff mp hp, Int.add_emod_emod]
  generalize hr : (m : Int) * h = ring at *
  generalize a % ring = w at *
  have key2 : ∀ q : Nat, q < m → (((q : Int) + w) % ring < m ↔ ((q : Int) < m - w ∨ ring - w ≤ q)) := fun q hq => by
    by_cases z : (q : Int) + w < ring
    · rw [Int.emod_eq_of_lt (by omega) z]
      omega
    · have e : ((q : Int) + w) % ring = q + w - ring := by
        have t := Int.add_mul_emod_self_left ((q : Int) + w - ring) ring 1
        rw [Int.emod_eq_of_lt (a := (q : Int) + w - ring) (by omega) (by omega), show (q : Int) + w - ring + ring * 1 = q + w by omega] at t
        exact t
      rw [e]
      omega
  unfold near
  by_cases c1 : w < m
  · rw [sm_congr (g := fun q => if (q : Int) < m - w then 1 else 0) (fun q hq => ?_), sm_below _ m (by omega) (by omega)]
    · split <;> split <;> omega
    · by_cases z : (q : Int) < m - w
      · rw [if_pos z, if_pos ((key q hq).mpr ((key2 q hq).mpr (.inl z)))]
      · rw [if_neg z, if_neg (fun y => by
          rcases (key2 q hq).mp ((key q hq).mp y) with y | y <;> omega)]
  · by_cases c2 : ring - w < m
    · rw [sm_congr (g := fun q => if ring - w ≤ (q : Int) then 1 else 0) (fun q hq => ?_), sm_above (by omega) (by omega)]
      · split <;> split <;> omega
      · by_cases z : ring - w ≤ (q : Int)
        · rw [if_pos z, if_pos ((key q hq).mpr ((key2 q hq).mpr (.inr z)))]
        · rw [if_neg z, if_neg (fun y => by
            rcases (key2 q hq).mp ((key q hq).mp y) with y | y <;> omega)]
    · rw [sm_congr (g := fun _ => 0) (fun q hq => if_neg (fun y => by
        rcases (key2 q hq).mp ((key q hq).mp y) with y | y <;> omega)), sm_zero]
      split <;> split <;> omega
/-- 1 where two rows are in unlike houses -/
def dH (b h x y u k : Int) : Int := if (x + u * k) / b % h = (y + u * k) / b % h then 0 else 1
/-- how many items of a turn are sent -/
theorem sent_eq {b h : Nat} (b0 : 0 < b) (h2 : 2 ≤ h) (x y u : Int) : ∃ m : Nat, b = Int.gcd u b * m ∧ 0 < m ∧
    sm (fun k => dH b h x y u k) (b * h) = h * ((Int.gcd u b : Nat) * (if (m : Int) < near ((y / (Int.gcd u b : Nat) - x / (Int.gcd u b : Nat)) % (m * h)) (m * h) then (m : Int) else near ((y / (Int.gcd u b : Nat) - x / (Int.gcd u b : Nat)) % (m * h)) (m * h))) := by
  have bp : (0 : Int) < b := by omega
  have hp : (0 : Int) < h := by omega
  let f : Int → Int := fun z => if z / b % h = (z + (y - x)) / b % h then 1 else 0
  have perf : Per f b := fun z w ⟨k, hk⟩ => by
    show (if _ then _ else _) = (if _ then _ else _)
    rw [show z = w + b * k by omega, show w + b * k + (y - x) = (w + (y - x)) + b * k by omega, Int.add_mul_ediv_left _ _ (Int.ne_of_gt bp), Int.add_mul_ediv_left _ _ (Int.ne_of_gt bp)]
    generalize w / (b : Int) = A
    generalize (w + (y - x)) / (b : Int) = D
    have q : (A + k) % h = (D + k) % h ↔ A % h = D % h := by
      rw [Int.emod_eq_emod_iff_emod_sub_eq_zero, Int.emod_eq_emod_iff_emod_sub_eq_zero, show A + k - (D + k) = A - D by omega]
    by_cases c : A % h = D % h
    · rw [if_pos c, if_pos (q.mpr c)]
    · rw [if_neg c, if_neg (fun z => c (q.mp z))]
  have perk : Per (fun k => f (x + u * k)) b := fun z w ⟨k, hk⟩ => perf _ _ ⟨u * k, by grind⟩
  obtain ⟨m, hm, m0, hs⟩ := walk_gcd b0 perf x u
  refine ⟨m, hm, m0, ?_⟩
  have g0 : 0 < Int.gcd u b := Int.gcd_pos_of_ne_zero_right u (by omega)
  have e1 : sm (fun k => dH b h x y u k) (b * h) = b * h - sm (fun k => f (x + u * (k : Int))) (b * h) := by
    have t := sm_add (fun k => dH b h x y u k) (fun k => f (x + u * (k : Int))) (b * h)
    rw [sm_congr (g := fun _ => 1) (fun k _ => by
      show dH b h x y u k + (if _ then _ else _) = 1
      unfold dH
      rw [show x + u * (k : Int) + (y - x) = y + u * k by omega]
      by_cases c : (x + u * (k : Int)) / b % h = (y + u * (k : Int)) / b % h
      · rw [if_pos c, if_pos c]; rfl
      · rw [if_neg c, if_neg c]; rfl), sm_const, Int.natCast_mul] at t
    omega
  rw [e1, sm_times perk h, hs]
  generalize Int.gcd u b = g at *
  have gp : (0 : Int) < g := by omega
  have perg : Per (fun i => f (x % g + g * i)) m := fun z w ⟨k, hk⟩ => perf _ _ ⟨k, by
    have : (b : Int) = g * m := by rw [hm, Int.natCast_mul]
    rw [this]
    grind⟩
  have xe := Int.emod_add_mul_ediv x g
  have x0 := Int.emod_nonneg x (Int.ne_of_gt gp)
  have x1 := Int.emod_lt_of_pos x gp
  have e2 : sm (fun i => f (x + g * (i : Int))) m = sm (fun i => f (x % g + g * (i : Int))) m := by
    rw [← sm_shift perg (x / g)]
    refine sm_congr fun i _ => ?_
    show f _ = f _
    rw [show x + (g : Int) * i = x % g + g * ((i : Int) + x / g) by rw [Int.mul_add]; omega]
  have e3 : sm (fun i => f (x % g + g * (i : Int))) m = sm (fun q => if ((q : Int) + (y / g - x / g)) / m % h = 0 then 1 else 0) m := sm_congr fun q hq => by
    show (if _ then _ else _) = _
    have bm : (b : Int) = g * m := by rw [hm, Int.natCast_mul]
    have q1 : (g : Int) * q ≤ g * (m - 1) := Int.mul_le_mul_of_nonneg_left (by omega) (by omega)
    have q0 : 0 ≤ (g : Int) * q := Int.mul_nonneg (by omega) (by omega)
    rw [Int.mul_sub, Int.mul_one] at q1
    have z0 : (x % g + (g : Int) * q) / b = 0 := Int.ediv_eq_zero_of_lt (by omega) (by omega)
    have z1 : (x % g + (g : Int) * q + (y - x)) / b = ((q : Int) + (y / g - x / g)) / m := by
      rw [bm, ← Int.ediv_ediv_of_nonneg (Int.le_of_lt gp), show x % g + (g : Int) * q + (y - x) = y + g * (q - x / g) by rw [Int.mul_sub]; omega, Int.add_mul_ediv_left _ _ (Int.ne_of_gt gp)]
      congr 1
      omega
    rw [z0, z1, Int.zero_emod]
    by_cases c : ((q : Int) + (y / g - x / g)) / m % h = 0
    · rw [if_pos c, if_pos c.symm]
    · rw [if_neg c, if_neg (fun z => c z.symm)]
  rw [e2, e3, cnt_near m0 h2, hm, Int.natCast_mul]
  grind
end MT
/-! the least cost of a shift -/
namespace MT
/-- the items sent for one item's shift, as they are reckoned: b the block, p the part, R the ring -/
def ph (b p R w : Int) : Int := if b < p * near (w % R) R then b else p * near (w % R) R
theorem ph_mod {b p R w k : Int} : ph b p R (w + R * k) = ph b p R w := by
  unfold ph
  rw [Int.add_mul_emod_self_left]
/-- on one turn of the ring, both ends with it -/
def ps (b p R r : Int) : Int := if b < (if p * r < p * R - p * r then p * r else p * R - p * r) then b else if p * r < p * R - p * r then p * r else p * R - p * r
theorem near_mul {p w R : Int} (hp : 0 < p) : p * near w R = if p * w < p * R - p * w then p * w else p * R - p * w := by
  unfold near
  have e : p * R - p * w = p * (R - w) := by rw [Int.mul_sub]
  rw [e]
  by_cases c : w < R - w
  · rw [if_pos c, if_pos (Int.mul_lt_mul_of_pos_left c hp)]
  · rw [if_neg c, if_neg (fun z => c (Int.lt_of_mul_lt_mul_left z (Int.le_of_lt hp)))]
theorem ph_ps {b p R r : Int} (b0 : 0 ≤ b) (hp : 0 < p) (hR : 0 < R) (r0 : 0 ≤ r) (r1 : r ≤ R) : ph b p R r = ps b p R r := by
  unfold ph ps
  by_cases e : r = R
  · subst e
    have z : r % r = 0 := Int.emod_self
    have y : near 0 r = 0 := if_pos (by omega)
    have rp := Int.mul_pos hp hR
    rw [z, y, Int.mul_zero, Int.sub_self]
    repeat' split
    all_goals omega
  · rw [Int.emod_eq_of_lt r0 (by omega), near_mul hp]
theorem ps_conc {b p R r : Int} (hp : 0 < p) : ps b p R (r - 1) + ps b p R (r + 1) ≤ 2 * ps b p R r := by
  unfold ps
  rw [Int.mul_sub, Int.mul_add, Int.mul_one]
  generalize p * r = x
  generalize p * R = y
  omega
/-- away from 0 it is concave -/
theorem ph_conc {b p R w : Int} (b0 : 0 ≤ b) (hp : 0 < p) (hR : 0 < R) (hw : w % R ≠ 0) : ph b p R (w - 1) + ph b p R (w + 1) ≤ 2 * ph b p R w := by
  have e := Int.emod_add_mul_ediv w R
  have r0 := Int.emod_nonneg w (Int.ne_of_gt hR)
  have r1 := Int.emod_lt_of_pos w hR
  generalize w % R = r at *
  rw [show w - 1 = (r - 1) + R * (w / R) by omega, show w + 1 = (r + 1) + R * (w / R) by omega, show w = r + R * (w / R) by omega]
  rw [ph_mod]
  have t : r + R * (w / R) = w := by omega
  rw [show (r + R * (w / R)) / R = w / R by rw [t], ph_mod, ph_mod, ph_ps b0 hp hR (by omega) (by omega), ph_ps b0 hp hR (by omega) (by omega), ph_ps b0 hp hR (by omega) (by omega)]
  exact ps_conc hp
/-- the cost of a shift: wants are (first, other, weight), s the deal's own shift -/
def cst (b h p R s : Int) (t : Int) : List (Int × Int × Int) → Int
  | [] => 0
  | (f, o, w) :: l => w * h * ph b p R ((o + t) / p - (f + s) / p) + cst b h p R s t l
section
variable {b h p R s : Int}
theorem cst_turn (hp : 0 < p) (t k : Int) : ∀ l, cst b h p R s (t + p * R * k) l = cst b h p R s t l
  | [] => rfl
  | (f, o, w) :: l => by
    show _ + _ = _ + _
    rw [cst_turn hp t k l, show o + (t + p * R * k) = (o + t) + p * (R * k) by grind, Int.add_mul_ediv_left _ _ (Int.ne_of_gt hp), show (o + t) / p + R * k - (f + s) / p = ((o + t) / p - (f + s) / p) + R * k by omega, ph_mod]
theorem cst_flat (hp : 0 < p) {t : Int} : ∀ {l : List (Int × Int × Int)}, (∀ x ∈ l, (x.2.1 + t) % p ≠ 0) → cst b h p R s (t - 1) l = cst b h p R s t l
  | [], _ => rfl
  | (f, o, w) :: l, hl => by
    show _ + _ = _ + _
    rw [cst_flat hp (l := l) fun x hx => hl x (List.mem_cons_of_mem _ hx)]
    have q : (o + t) % p ≠ 0 := hl (f, o, w) List.mem_cons_self
    have e := Int.emod_add_mul_ediv (o + t) p
    have r0 := Int.emod_nonneg (o + t) (Int.ne_of_gt hp)
    have r1 := Int.emod_lt_of_pos (o + t) hp
    have d : (o + (t - 1)) / p = (o + t) / p := by
      rw [show o + (t - 1) = ((o + t) % p - 1) + p * ((o + t) / p) by omega, Int.add_mul_ediv_left _ _ (Int.ne_of_gt hp), Int.ediv_eq_zero_of_lt (by omega) (by omega), Int.zero_add]
    rw [d]
theorem cst_conc (b0 : 0 ≤ b) (h0 : 0 ≤ h) (hp : 0 < p) (hR : 0 < R) {t : Int} : ∀ {l : List (Int × Int × Int)}, (∀ x ∈ l, 0 ≤ x.2.2 ∧ ((x.2.1 + t) / p - (x.1 + s) / p) % R ≠ 0) → cst b h p R s (t - p) l + cst b h p R s (t + p) l ≤ 2 * cst b h p R s t l
  | [], _ => Int.le_refl _
  | (f, o, w) :: l, hl => by
    have ih := cst_conc b0 h0 hp hR (t := t) (l := l) fun x hx => hl x (List.mem_cons_of_mem _ hx)
    obtain ⟨w0, q⟩ := hl (f, o, w) List.mem_cons_self
    have c := ph_conc b0 hp hR q
    have wh : 0 ≤ w * h := Int.mul_nonneg w0 h0
    have d1 : (o + (t - p)) / p = (o + t) / p - 1 := by
      rw [show o + (t - p) = (o + t) + p * (-1) by omega, Int.add_mul_ediv_left _ _ (Int.ne_of_gt hp)]
      omega
    have d2 : (o + (t + p)) / p = (o + t) / p + 1 := by
      rw [show o + (t + p) = (o + t) + p * 1 by omega, Int.add_mul_ediv_left _ _ (Int.ne_of_gt hp)]
    have m := Int.mul_le_mul_of_nonneg_left c wh
    show (w * h * ph b p R ((o + (t - p)) / p - (f + s) / p) + cst b h p R s (t - p) l) + (w * h * ph b p R ((o + (t + p)) / p - (f + s) / p) + cst b h p R s (t + p) l) ≤ 2 * (w * h * ph b p R ((o + t) / p - (f + s) / p) + cst b h p R s t l)
    rw [d1, d2, show (o + t) / p - 1 - (f + s) / p = (o + t) / p - (f + s) / p - 1 by omega, show (o + t) / p + 1 - (f + s) / p = (o + t) / p - (f + s) / p + 1 by omega]
    rw [Int.mul_add] at m
    generalize w * h * ph b p R ((o + t) / p - (f + s) / p - 1) = A at *
    generalize w * h * ph b p R ((o + t) / p - (f + s) / p + 1) = B at *
    have e : w * h * (2 * ph b p R ((o + t) / p - (f + s) / p)) = 2 * (w * h * ph b p R ((o + t) / p - (f + s) / p)) := by grind
    rw [e] at m
    generalize w * h * ph b p R ((o + t) / p - (f + s) / p) = C at *
    omega
/-- a shift that is not tried has a better one, or an earlier one that is as good -/
theorem cst_better (b0 : 0 ≤ b) (h0 : 0 ≤ h) (hp : 0 < p) (hR : 0 < R) {l : List (Int × Int × Int)} (hw : ∀ x ∈ l, 0 ≤ x.2.2) {t : Int} (t0 : 0 ≤ t) (t1 : t < p * R)
    (no : (t % p ≠ 0 ∧ ∀ x ∈ l, (x.2.1 + t) % p ≠ 0) ∨ (p ≤ t ∧ ∀ x ∈ l, ((x.2.1 + t) / p - (x.1 + s) / p) % R ≠ 0)) :
    ∃ t', 0 ≤ t' ∧ t' < p * R ∧ (cst b h p R s t' l < cst b h p R s t l ∨ (cst b h p R s t' l = cst b h p R s t l ∧ t' < t)) := by
  rcases no with ⟨n1, n2⟩ | ⟨n1, n2⟩
  · have : t ≠ 0 := fun z => n1 (by rw [z]; exact Int.zero_emod _)
    exact ⟨t - 1, by omega, by omega, .inr ⟨cst_flat hp n2, by omega⟩⟩
  · have c := cst_conc b0 h0 hp hR (t := t) (l := l) fun x hx => ⟨hw x hx, n2 x hx⟩
    by_cases z : cst b h p R s (t - p) l ≤ cst b h p R s t l
    · refine ⟨t - p, by omega, by omega, ?_⟩
      by_cases y : cst b h p R s (t - p) l = cst b h p R s t l
      · exact .inr ⟨y, by omega⟩
      · exact .inl (by omega)
    · have rp := Int.mul_pos hp hR
      have e := Int.emod_add_mul_ediv (t + p) (p * R)
      refine ⟨(t + p) % (p * R), Int.emod_nonneg _ (Int.ne_of_gt rp), Int.emod_lt_of_pos _ rp, .inl ?_⟩
      have := cst_turn (b := b) (h := h) (R := R) (s := s) hp ((t + p) % (p * R)) ((t + p) / (p * R)) l
      rw [e] at this
      omega
end
end MT
/-! the best of some shifts; stretches on a ring -/
namespace MT
def lexle (C : Int → Int) (a b : Int) : Prop := C a < C b ∨ (C a = C b ∧ a ≤ b)
theorem lexle.refl (C : Int → Int) (a : Int) : lexle C a a := .inr ⟨rfl, Int.le_refl _⟩
theorem lexle.trans {C : Int → Int} {a b c : Int} (h : lexle C a b) (g : lexle C b c) : lexle C a c := by
  unfold lexle at *
  omega
theorem lexle.total (C : Int → Int) (a b : Int) : lexle C a b ∨ lexle C b a := by
  unfold lexle
  omega
theorem least_ex (C : Int → Int) : ∀ N : Nat, 0 < N → ∃ t : Int, 0 ≤ t ∧ t < N ∧ ∀ u : Int, 0 ≤ u → u < N → lexle C t u
  | 0, h => absurd h (Nat.lt_irrefl _)
  | 1, _ => ⟨0, by omega, by omega, fun u h1 h2 => by
    have : u = 0 := by omega
    rw [this]
    exact lexle.refl _ _⟩
  | N + 2, _ => by
    obtain ⟨t, h1, h2, h3⟩ := least_ex C (N + 1) (by omega)
    rcases lexle.total C t ((N + 1 : Nat) : Int) with q | q
    · refine ⟨t, h1, by omega, fun u u0 u1 => ?_⟩
      by_cases z : u < ((N + 1 : Nat) : Int)
      · exact h3 u u0 z
      · have : u = ((N + 1 : Nat) : Int) := by omega
        rw [this]
        exact q
    · refine ⟨((N + 1 : Nat) : Int), by omega, by omega, fun u u0 u1 => ?_⟩
      by_cases z : u < ((N + 1 : Nat) : Int)
      · exact q.trans (h3 u u0 z)
      · have : u = ((N + 1 : Nat) : Int) := by omega
        rw [this]
        exact lexle.refl _ _
/-- one of L is the best of all -/
theorem best_in {C : Int → Int} {N : Nat} (N0 : 0 < N) {L : List Int} (P : ∀ t : Int, 0 ≤ t → t < N → t ∉ L → ∃ t' : Int, 0 ≤ t' ∧ t' < N ∧ (C t' < C t ∨ (C t' = C t ∧ t' < t))) : ∃ t ∈ L, 0 ≤ t ∧ t < N ∧ ∀ u : Int, 0 ≤ u → u < N → lexle C t u := by
  obtain ⟨t, h1, h2, h3⟩ := least_ex C N N0
  refine ⟨t, Classical.byContradiction fun z => ?_, h1, h2, h3⟩
  obtain ⟨u, u0, u1, q⟩ := P t h1 h2 z
  have := h3 u u0 u1
  unfold lexle at this
  omega
/-- what a walk through L keeps -/
def bstep (C : Int → Int) (b : Option (Int × Int)) (t : Int) : Option (Int × Int) := match b with
  | none => some (C t, t)
  | some (c, u) => if C t < c ∨ (C t = c ∧ t < u) then some (C t, t) else some (c, u)
theorem bstep_inv {C : Int → Int} : ∀ (L : List Int) (m : Int), ∃ k, L.foldl (bstep C) (some (C m, m)) = some (C k, k) ∧ (k = m ∨ k ∈ L) ∧ lexle C k m ∧ ∀ u ∈ L, lexle C k u
  | [], m => ⟨m, rfl, .inl rfl, lexle.refl _ _, fun u h => nomatch h⟩
  | t :: L, m => by
    rw [List.foldl_cons]
    by_cases q : C t < C m ∨ (C t = C m ∧ t < m)
    · have e : bstep C (some (C m, m)) t = some (C t, t) := if_pos q
      obtain ⟨k, h1, h2, h3, h4⟩ := bstep_inv L t
      rw [e]
      have tm : lexle C t m := by unfold lexle; omega
      refine ⟨k, h1, .inr ?_, h3.trans tm, fun u hu => ?_⟩
      · rcases h2 with rfl | h2
        · exact List.mem_cons_self
        · exact List.mem_cons_of_mem _ h2
      · rcases List.mem_cons.mp hu with rfl | hu
        · exact h3
        · exact h4 u hu
    · have e : bstep C (some (C m, m)) t = some (C m, m) := if_neg q
      obtain ⟨k, h1, h2, h3, h4⟩ := bstep_inv L m
      rw [e]
      have mt : lexle C m t := by unfold lexle; omega
      refine ⟨k, h1, ?_, h3, fun u hu => ?_⟩
      · rcases h2 with rfl | h2
        · exact .inl rfl
        · exact .inr (List.mem_cons_of_mem _ h2)
      · rcases List.mem_cons.mp hu with rfl | hu
        · exact h3.trans mt
        · exact h4 u hu
theorem bst_eq {C : Int → Int} {N : Nat} (N0 : 0 < N) {L : List Int} (hL : ∀ t ∈ L, 0 ≤ t ∧ t < N) (P : ∀ t : Int, 0 ≤ t → t < N → t ∉ L → ∃ t' : Int, 0 ≤ t' ∧ t' < N ∧ (C t' < C t ∨ (C t' = C t ∧ t' < t))) :
    ∃ t : Int, L.foldl (bstep C) none = some (C t, t) ∧ 0 ≤ t ∧ t < N ∧ ∀ u : Int, 0 ≤ u → u < N → lexle C t u := by
  obtain ⟨t, ht, t0, t1, hl⟩ := best_in N0 P
  cases L with
  | nil => cases ht
  | cons m L =>
    have e : bstep C none m = some (C m, m) := rfl
    rw [List.foldl_cons, e]
    obtain ⟨k, h1, h2, h3, h4⟩ := bstep_inv (C := C) L m
    have kt : lexle C k t := by
      rcases List.mem_cons.mp ht with rfl | ht
      · exact h3
      · exact h4 t ht
    have kL : k ∈ m :: L := by
      rcases h2 with rfl | h2
      · exact List.mem_cons_self
      · exact List.mem_cons_of_mem _ h2
    obtain ⟨k0, k1⟩ := hL k kL
    have tk := hl k k0 k1
    have : k = t := by unfold lexle at kt tk; omega
    subst this
    exact ⟨k, h1, k0, k1, hl⟩
/-! ### stretches on a ring -/
def inI (W f n t : Int) : Prop := (t - f) % W < n
/-- what two stretches have in common -/
def met (W f1 n1 f2 n2 : Int) : Option (Int × Int) :=
  if (f2 - f1) % W < n1 then some (f2, if n2 < n1 - (f2 - f1) % W then n2 else n1 - (f2 - f1) % W)
  else if 0 < (f2 - f1) % W + n2 - W then some (f1, if n1 < (f2 - f1) % W + n2 - W then n1 else (f2 - f1) % W + n2 - W) else none
theorem sub_mod {W a b : Int} (hW : 0 < W) (a0 : 0 ≤ a) (a1 : a < W) (b0 : 0 ≤ b) (b1 : b < W) : (a - b) % W = if b ≤ a then a - b else a - b + W := by
  split
  · exact Int.emod_eq_of_lt (by omega) (by omega)
  · have := Int.add_mul_emod_self_left (a - b) W 1
    rw [Int.mul_one] at this
    rw [← this]
    exact Int.emod_eq_of_lt (by omega) (by omega)
theorem met_ok {W f1 n1 f2 n2 : Int} (hW : 0 < W) (h1 : 1 ≤ n1) (h2 : 1 ≤ n2) (h3 : n1 + n2 ≤ W) : match met W f1 n1 f2 n2 with
    | some (f, n) => 1 ≤ n ∧ n ≤ n1 ∧ n ≤ n2 ∧ ∀ t, inI W f n t ↔ (inI W f1 n1 t ∧ inI W f2 n2 t)
    | none => ∀ t, ¬ (inI W f1 n1 t ∧ inI W f2 n2 t) := by
  have a0 := Int.emod_nonneg (f2 - f1) (Int.ne_of_gt hW)
  have a1 := Int.emod_lt_of_pos (f2 - f1) hW
  have rel : ∀ t, (t - f2) % W = if (f2 - f1) % W ≤ (t - f1) % W then (t - f1) % W - (f2 - f1) % W else (t - f1) % W - (f2 - f1) % W + W := fun t => by
    rw [← sub_mod hW (Int.emod_nonneg _ (Int.ne_of_gt hW)) (Int.emod_lt_of_pos _ hW) a0 a1, ← Int.sub_emod]
    congr 1
    omega
  unfold met
  by_cases c1 : (f2 - f1) % W < n1
  · rw [if_pos c1]
    refine ⟨by split <;> omega, by split <;> omega, by split <;> omega, fun t => ?_⟩
    unfold inI
    have r := rel t
    have r0 := Int.emod_nonneg (t - f1) (Int.ne_of_gt hW)
    have r1 := Int.emod_lt_of_pos (t - f1) hW
    generalize (f2 - f1) % W = a at *
    generalize (t - f1) % W = x at *
    generalize (t - f2) % W = y at *
    split at r <;> split <;> omega
  · rw [if_neg c1]
    by_cases c2 : 0 < (f2 - f1) % W + n2 - W
    · rw [if_pos c2]
      refine ⟨by split <;> omega, by split <;> omega, by split <;> omega, fun t => ?_⟩
      unfold inI
      have r := rel t
      have r0 := Int.emod_nonneg (t - f1) (Int.ne_of_gt hW)
      have r1 := Int.emod_lt_of_pos (t - f1) hW
      generalize (f2 - f1) % W = a at *
      generalize (t - f1) % W = x at *
      generalize (t - f2) % W = y at *
      split at r <;> split <;> omega
    · rw [if_neg c2]
      intro t
      unfold inI
      have r := rel t
      have r0 := Int.emod_nonneg (t - f1) (Int.ne_of_gt hW)
      have r1 := Int.emod_lt_of_pos (t - f1) hW
      generalize (f2 - f1) % W = a at *
      generalize (t - f1) % W = x at *
      generalize (t - f2) % W = y at *
      split at r <;> omega
/-- a shift at which nothing is sent -/
theorem silent_iff {p R o t c : Int} (hp : 0 < p) (hR : 0 < R) : ((o + t) / p - c) % R = 0 ↔ inI (p * R) ((p * c - o) % (p * R)) p t := by
  unfold inI
  rw [show (t - (p * c - o) % (p * R)) % (p * R) = (o + t + p * (-c)) % (p * R) by
    rw [Int.sub_emod, Int.emod_emod_of_dvd _ (Int.dvd_refl _), ← Int.sub_emod]
    congr 1
    rw [Int.mul_neg]
    omega, lt_iff hp hR, Int.add_mul_ediv_left _ _ (Int.ne_of_gt hp)]
  rfl
end MT
namespace K27
open PySem L2 DS VL
def top (i : Nat) : Stmt := PySem.Challenge.pw_dealtsums_k27_shifts.main.body.getD i (.Pass ⟨0, 0, 0, 0⟩)
abbrev s_is_integer : Stmt := top 5
abbrev N_is_integer : List Str := ["value"]
theorem sc_is_integer : FnScope ["value"] ["value"] (defScope s_is_integer) := ⟨rfl, rfl, rfl, by decide +kernel, rfl, by decide +kernel, by decide +kernel⟩
abbrev s_is_whole : Stmt := top 6
abbrev N_is_whole : List Str := ["value"]
theorem sc_is_whole : FnScope ["value"] ["value"] (defScope s_is_whole) := ⟨rfl, rfl, rfl, by decide +kernel, rfl, by decide +kernel, by decide +kernel⟩
abbrev s_need_integer : Stmt := top 7
abbrev N_need_integer : List Str := ["value"]
theorem sc_need_integer : FnScope ["value"] ["value"] (defScope s_need_integer) := ⟨rfl, rfl, rfl, by decide +kernel, rfl, by decide +kernel, by decide +kernel⟩
abbrev s_need_positive : Stmt := top 8
abbrev N_need_positive : List Str := ["value"]
theorem sc_need_positive : FnScope ["value"] ["value"] (defScope s_need_positive) := ⟨rfl, rfl, rfl, by decide +kernel, rfl, by decide +kernel, by decide +kernel⟩
abbrev s_need_step : Stmt := top 9
abbrev N_need_step : List Str := ["value"]
theorem sc_need_step : FnScope ["value"] ["value"] (defScope s_need_step) := ⟨rfl, rfl, rfl, by decide +kernel, rfl, by decide +kernel, by decide +kernel⟩
abbrev s_need_items : Stmt := top 10
abbrev N_need_items : List Str := ["value"]
theorem sc_need_items : FnScope ["value"] ["value"] (defScope s_need_items) := ⟨rfl, rfl, rfl, by decide +kernel, rfl, by decide +kernel, by decide +kernel⟩
abbrev s_common_factor : Stmt := top 11
abbrev N_common_factor : List Str := ["one", "other"]
theorem sc_common_factor : FnScope ["one", "other"] ["one", "other"] (defScope s_common_factor) := ⟨rfl, rfl, rfl, by decide +kernel, rfl, by decide +kernel, by decide +kernel⟩
abbrev s_Deal___init__ : Stmt := inClass (top 13) 0
abbrev N_Deal___init__ : List Str := ["self", "block", "houses", "shift"]
theorem sc_Deal___init__ : FnScope ["self", "block", "houses", "shift"] ["self", "block", "houses", "shift"] (defScope s_Deal___init__) := ⟨rfl, rfl, rfl, by decide +kernel, rfl, by decide +kernel, by decide +kernel⟩
abbrev s_is_step : Stmt := top 15
abbrev N_is_step : List Str := ["value"]
theorem sc_is_step : FnScope ["value"] ["value"] (defScope s_is_step) := ⟨rfl, rfl, rfl, by decide +kernel, rfl, by decide +kernel, by decide +kernel⟩
abbrev s_need_deal : Stmt := top 16
abbrev N_need_deal : List Str := ["deal"]
theorem sc_need_deal : FnScope ["deal"] ["deal"] (defScope s_need_deal) := ⟨rfl, rfl, rfl, by decide +kernel, rfl, by decide +kernel, by decide +kernel⟩
abbrev s_need_wants : Stmt := top 17
abbrev N_need_wants : List Str := ["wants", "is_last", "want"]
theorem sc_need_wants : FnScope ["wants", "is_last", "want"] ["wants", "is_last"] (defScope s_need_wants) := ⟨rfl, rfl, rfl, by decide +kernel, rfl, by decide +kernel, by decide +kernel⟩
abbrev s_met : Stmt := top 18
abbrev N_met : List Str := ["one", "other", "whole", "apart", "left"]
theorem sc_met : FnScope ["one", "other", "whole", "apart", "left"] ["one", "other", "whole"] (defScope s_met) := ⟨rfl, rfl, rfl, by decide +kernel, rfl, by decide +kernel, by decide +kernel⟩
abbrev s_free_shifts : Stmt := top 19
abbrev N_free_shifts : List Str := ["deal", "wants", "whole", "found", "first", "other", "step", "part", "stretch"]
theorem sc_free_shifts : FnScope ["deal", "wants", "whole", "found", "first", "other", "step", "part", "stretch"] ["deal", "wants"] (defScope s_free_shifts) := ⟨rfl, rfl, rfl, by decide +kernel, rfl, by decide +kernel, by decide +kernel⟩
abbrev s_cost_at : Stmt := top 20
abbrev N_cost_at : List Str := ["deal", "part", "wants", "shift", "total", "ring", "first", "other", "weight", "away"]
theorem sc_cost_at : FnScope ["deal", "part", "wants", "shift", "total", "ring", "first", "other", "weight", "away"] ["deal", "part", "wants", "shift"] (defScope s_cost_at) := ⟨rfl, rfl, rfl, by decide +kernel, rfl, by decide +kernel, by decide +kernel⟩
abbrev s_shift_cost : Stmt := top 21
abbrev N_shift_cost : List Str := ["deal", "step", "wants", "shift"]
theorem sc_shift_cost : FnScope ["deal", "step", "wants", "shift"] ["deal", "step", "wants", "shift"] (defScope s_shift_cost) := ⟨rfl, rfl, rfl, by decide +kernel, rfl, by decide +kernel, by decide +kernel⟩
abbrev s_tried_shifts : Stmt := top 22
abbrev N_tried_shifts : List Str := ["deal", "part", "wants", "ring", "found", "first", "other", "weight", "rest", "turns"]
theorem sc_tried_shifts : FnScope ["deal", "part", "wants", "ring", "found", "first", "other", "weight", "rest", "turns"] ["deal", "part", "wants"] (defScope s_tried_shifts) := ⟨rfl, rfl, rfl, by decide +kernel, rfl, by decide +kernel, by decide +kernel⟩
abbrev s_best_shift : Stmt := top 23
abbrev N_best_shift : List Str := ["deal", "step", "wants", "part", "best", "shift", "told"]
theorem sc_best_shift : FnScope ["deal", "step", "wants", "part", "best", "shift", "told"] ["deal", "step", "wants"] (defScope s_best_shift) := ⟨rfl, rfl, rfl, by decide +kernel, rfl, by decide +kernel, by decide +kernel⟩
abbrev s__law_pen : Stmt := top 25
abbrev N__law_pen : List Str := ["_law_script"]
theorem sc__law_pen : FnScope ["_law_script"] ["_law_script"] (defScope s__law_pen) := ⟨rfl, rfl, rfl, by decide +kernel, rfl, by decide +kernel, by decide +kernel⟩
abbrev s__law_draw : Stmt := top 26
abbrev N__law_draw : List Str := ["_law_pen_here", "_law_span", "_law_digit", "_law_at", "_law_cell", "_law_mash"]
theorem sc__law_draw : FnScope ["_law_pen_here", "_law_span", "_law_digit", "_law_at", "_law_cell", "_law_mash"] ["_law_pen_here", "_law_span"] (defScope s__law_draw) := ⟨rfl, rfl, rfl, by decide +kernel, rfl, by decide +kernel, by decide +kernel⟩
abbrev s__law_pick : Stmt := top 27
abbrev N__law_pick : List Str := ["_law_pen_here", "_law_menu"]
theorem sc__law_pick : FnScope ["_law_pen_here", "_law_menu"] ["_law_pen_here", "_law_menu"] (defScope s__law_pick) := ⟨rfl, rfl, rfl, by decide +kernel, rfl, by decide +kernel, by decide +kernel⟩
abbrev s__law_great : Stmt := top 28
abbrev N__law_great : List Str := ["_law_pen_here", "_law_figures", "_law_found", "_law_go"]
theorem sc__law_great : FnScope ["_law_pen_here", "_law_figures", "_law_found", "_law_go"] ["_law_pen_here", "_law_figures"] (defScope s__law_great) := ⟨rfl, rfl, rfl, by decide +kernel, rfl, by decide +kernel, by decide +kernel⟩
abbrev s__law_told : Stmt := top 29
abbrev N__law_told : List Str := ["_law_call", "_law_told_here", "e"]
theorem sc__law_told : FnScope ["_law_call", "_law_told_here", "e"] ["_law_call"] (defScope s__law_told) := ⟨rfl, rfl, rfl, by decide +kernel, rfl, by decide +kernel, by decide +kernel⟩
abbrev s__law_sent : Stmt := top 30
abbrev N__law_sent : List Str := ["_law_deal", "_law_want", "_law_step_here", "_law_shift", "_law_block", "_law_houses", "_law_moved", "_law_found", "_law_k", "_law_one", "_law_other"]
theorem sc__law_sent : FnScope ["_law_deal", "_law_want", "_law_step_here", "_law_shift", "_law_block", "_law_houses", "_law_moved", "_law_found", "_law_k", "_law_one", "_law_other"] ["_law_deal", "_law_want", "_law_step_here", "_law_shift"] (defScope s__law_sent) := ⟨rfl, rfl, rfl, by decide +kernel, rfl, by decide +kernel, by decide +kernel⟩
abbrev s__law_cost : Stmt := top 31
abbrev N__law_cost : List Str := ["_law_deal", "_law_step_here", "_law_wants_here", "_law_shift", "_law_want"]
theorem sc__law_cost : FnScope ["_law_deal", "_law_step_here", "_law_wants_here", "_law_shift", "_law_want"] ["_law_deal", "_law_step_here", "_law_wants_here", "_law_shift"] (defScope s__law_cost) := ⟨rfl, rfl, rfl, by decide +kernel, rfl, by decide +kernel, by decide +kernel⟩
abbrev s__law_step : Stmt := top 32
abbrev N__law_step : List Str := ["_law_pen_here"]
theorem sc__law_step : FnScope ["_law_pen_here"] ["_law_pen_here"] (defScope s__law_step) := ⟨rfl, rfl, rfl, by decide +kernel, rfl, by decide +kernel, by decide +kernel⟩
abbrev s__law_wants : Stmt := top 33
abbrev N__law_wants : List Str := ["_law_pen_here", "_law_last", "_law_found", "_law_go", "_law_first", "_law_other"]
theorem sc__law_wants : FnScope ["_law_pen_here", "_law_last", "_law_found", "_law_go", "_law_first", "_law_other"] ["_law_pen_here", "_law_last"] (defScope s__law_wants) := ⟨rfl, rfl, rfl, by decide +kernel, rfl, by decide +kernel, by decide +kernel⟩
abbrev s__law_scaled : Stmt := top 34
abbrev N__law_scaled : List Str := ["_law_wants_here", "_law_times", "_law_steps", "_law_want"]
theorem sc__law_scaled : FnScope ["_law_wants_here", "_law_times", "_law_steps", "_law_want"] ["_law_wants_here", "_law_times", "_law_steps"] (defScope s__law_scaled) := ⟨rfl, rfl, rfl, by decide +kernel, rfl, by decide +kernel, by decide +kernel⟩
abbrev s__law_free_right : Stmt := top 35
abbrev N__law_free_right : List Str := ["_law_pen_here", "_law_deal", "_law_times", "_law_wants_here", "_law_whole", "_law_due", "_law_silent", "_law_shift", "_law_first", "_law_far", "_law_told_here", "_law_want"]
theorem sc__law_free_right : FnScope ["_law_pen_here", "_law_deal", "_law_times", "_law_wants_here", "_law_whole", "_law_due", "_law_silent", "_law_shift", "_law_first", "_law_far", "_law_told_here", "_law_want"] ["_law_pen_here", "_law_deal", "_law_times"] (defScope s__law_free_right) := ⟨rfl, rfl, rfl, by decide +kernel, rfl, by decide +kernel, by decide +kernel⟩
abbrev s__law_best_right : Stmt := top 36
abbrev N__law_best_right : List Str := ["_law_pen_here", "_law_deal", "_law_times", "_law_wants_here", "_law_step_here", "_law_whole", "_law_shift", "_law_near", "_law_costs", "_law_least", "_law_far", "_law_more"]
theorem sc__law_best_right : FnScope ["_law_pen_here", "_law_deal", "_law_times", "_law_wants_here", "_law_step_here", "_law_whole", "_law_shift", "_law_near", "_law_costs", "_law_least", "_law_far", "_law_more"] ["_law_pen_here", "_law_deal", "_law_times"] (defScope s__law_best_right) := ⟨rfl, rfl, rfl, by decide +kernel, rfl, by decide +kernel, by decide +kernel⟩
abbrev s__law_refused_right : Stmt := top 37
abbrev N__law_refused_right : List Str := ["_law_pen_here", "_law_lone", "_law_bent", "_law_deal", "_law_few", "_law_heavy", "_law_odd", "_law_strange", "_law_wants_here", "_law_wry"]
theorem sc__law_refused_right : FnScope ["_law_pen_here", "_law_lone", "_law_bent", "_law_deal", "_law_few", "_law_heavy", "_law_odd", "_law_strange", "_law_wants_here", "_law_wry"] ["_law_pen_here"] (defScope s__law_refused_right) := ⟨rfl, rfl, rfl, by decide +kernel, rfl, by decide +kernel, by decide +kernel⟩
abbrev s_law : Stmt := top 38
abbrev N_law : List Str := ["_law_script", "_law_pen_here", "_law_lap", "_law_deal", "_law_times"]
theorem sc_law : FnScope ["_law_script", "_law_pen_here", "_law_lap", "_law_deal", "_law_times"] ["_law_script"] (defScope s_law) := ⟨rfl, rfl, rfl, by decide +kernel, rfl, by decide +kernel, by decide +kernel⟩
abbrev PR : Program := PySem.Challenge.pw_dealtsums_k27_shifts
abbrev s_BadValue___init__ : Stmt := inClass (top 3) 0
structure Tx (w : World) (K : PySem.W.Frag) (mg : Str → Option Value) where
  C_BadValue : Addr
  f_BadValue___init__ : Addr
  fd_BadValue___init__ : FuncData
  gC_BadValue : mg "BadValue" = some (.ref C_BadValue)
  X_BadValue : XOne PR w K mg C_BadValue f_BadValue___init__ fd_BadValue___init__ s_BadValue___init__ "BadValue.__init__" "value"
  bX_BadValue : Binds K fd_BadValue___init__ ["self", "value"] []
  xf_BadValue : XfC K C_BadValue
  em_BadValue : PySem.W.exmOne K (.ref C_BadValue) (.ref C_BadValue) = some true
  C_Deal : Addr
  cl_Deal : Cls K C_Deal
  gC_Deal : mg "Deal" = some (.ref C_Deal)
  n_Deal_houses : NoAttr K C_Deal "houses"
  n_Deal_block : NoAttr K C_Deal "block"
  n_Deal_shift : NoAttr K C_Deal "shift"
  f_is_integer : Addr
  fd_is_integer : FuncData
  F_is_integer : Fun K "is_integer" "is_integer" s_is_integer f_is_integer fd_is_integer
  b_is_integer : Binds K fd_is_integer ["value"] []
  g_is_integer : mg "is_integer" = some (.ref f_is_integer)
  f_is_whole : Addr
  fd_is_whole : FuncData
  F_is_whole : Fun K "is_whole" "is_whole" s_is_whole f_is_whole fd_is_whole
  b_is_whole : Binds K fd_is_whole ["value"] []
  g_is_whole : mg "is_whole" = some (.ref f_is_whole)
  f_need_integer : Addr
  fd_need_integer : FuncData
  F_need_integer : Fun K "need_integer" "need_integer" s_need_integer f_need_integer fd_need_integer
  b_need_integer : Binds K fd_need_integer ["value"] []
  g_need_integer : mg "need_integer" = some (.ref f_need_integer)
  f_need_positive : Addr
  fd_need_positive : FuncData
  F_need_positive : Fun K "need_positive" "need_positive" s_need_positive f_need_positive fd_need_positive
  b_need_positive : Binds K fd_need_positive ["value"] []
  g_need_positive : mg "need_positive" = some (.ref f_need_positive)
  f_need_step : Addr
  fd_need_step : FuncData
  F_need_step : Fun K "need_step" "need_step" s_need_step f_need_step fd_need_step
  b_need_step : Binds K fd_need_step ["value"] []
  g_need_step : mg "need_step" = some (.ref f_need_step)
  f_need_items : Addr
  fd_need_items : FuncData
  F_need_items : Fun K "need_items" "need_items" s_need_items f_need_items fd_need_items
  b_need_items : Binds K fd_need_items ["value"] []
  g_need_items : mg "need_items" = some (.ref f_need_items)
  f_common_factor : Addr
  fd_common_factor : FuncData
  F_common_factor : Fun K "common_factor" "common_factor" s_common_factor f_common_factor fd_common_factor
  b_common_factor : Binds K fd_common_factor ["one", "other"] []
  g_common_factor : mg "common_factor" = some (.ref f_common_factor)
  f_Deal___init__ : Addr
  fd_Deal___init__ : FuncData
  F_Deal___init__ : FunD K "__init__" "Deal.__init__" (defArgs s_Deal___init__) (defBody s_Deal___init__) (defScope s_Deal___init__) [.int 0] [] f_Deal___init__ fd_Deal___init__
  b_Deal___init__ : Binds K fd_Deal___init__ ["self", "block", "houses", "shift"] []
  ds_Deal___init__ : List Value
  dv_Deal___init__ : Vals [.int 0] ds_Deal___init__
  bd_Deal___init__ : Binds K fd_Deal___init__ ["self", "block", "houses", "shift"] ds_Deal___init__
  M_Deal : Mk K C_Deal f_Deal___init__
  f_is_step : Addr
  fd_is_step : FuncData
  F_is_step : Fun K "is_step" "is_step" s_is_step f_is_step fd_is_step
  b_is_step : Binds K fd_is_step ["value"] []
  g_is_step : mg "is_step" = some (.ref f_is_step)
  f_need_deal : Addr
  fd_need_deal : FuncData
  F_need_deal : Fun K "need_deal" "need_deal" s_need_deal f_need_deal fd_need_deal
  b_need_deal : Binds K fd_need_deal ["deal"] []
  g_need_deal : mg "need_deal" = some (.ref f_need_deal)
  f_need_wants : Addr
  fd_need_wants : FuncData
  F_need_wants : Fun K "need_wants" "need_wants" s_need_wants f_need_wants fd_need_wants
  b_need_wants : Binds K fd_need_wants ["wants", "is_last"] []
  g_need_wants : mg "need_wants" = some (.ref f_need_wants)
  f_met : Addr
  fd_met : FuncData
  F_met : Fun K "met" "met" s_met f_met fd_met
  b_met : Binds K fd_met ["one", "other", "whole"] []
  g_met : mg "met" = some (.ref f_met)
  f_free_shifts : Addr
  fd_free_shifts : FuncData
  F_free_shifts : Fun K "free_shifts" "free_shifts" s_free_shifts f_free_shifts fd_free_shifts
  b_free_shifts : Binds K fd_free_shifts ["deal", "wants"] []
  g_free_shifts : mg "free_shifts" = some (.ref f_free_shifts)
  f_cost_at : Addr
  fd_cost_at : FuncData
  F_cost_at : Fun K "cost_at" "cost_at" s_cost_at f_cost_at fd_cost_at
  b_cost_at : Binds K fd_cost_at ["deal", "part", "wants", "shift"] []
  g_cost_at : mg "cost_at" = some (.ref f_cost_at)
  f_shift_cost : Addr
  fd_shift_cost : FuncData
  F_shift_cost : Fun K "shift_cost" "shift_cost" s_shift_cost f_shift_cost fd_shift_cost
  b_shift_cost : Binds K fd_shift_cost ["deal", "step", "wants", "shift"] []
  g_shift_cost : mg "shift_cost" = some (.ref f_shift_cost)
  f_tried_shifts : Addr
  fd_tried_shifts : FuncData
  F_tried_shifts : Fun K "tried_shifts" "tried_shifts" s_tried_shifts f_tried_shifts fd_tried_shifts
  b_tried_shifts : Binds K fd_tried_shifts ["deal", "part", "wants"] []
  g_tried_shifts : mg "tried_shifts" = some (.ref f_tried_shifts)
  f_best_shift : Addr
  fd_best_shift : FuncData
  F_best_shift : Fun K "best_shift" "best_shift" s_best_shift f_best_shift fd_best_shift
  b_best_shift : Binds K fd_best_shift ["deal", "step", "wants"] []
  g_best_shift : mg "best_shift" = some (.ref f_best_shift)
  f__law_pen : Addr
  fd__law_pen : FuncData
  F__law_pen : Fun K "_law_pen" "_law_pen" s__law_pen f__law_pen fd__law_pen
  b__law_pen : Binds K fd__law_pen ["_law_script"] []
  g__law_pen : mg "_law_pen" = some (.ref f__law_pen)
  f__law_draw : Addr
  fd__law_draw : FuncData
  F__law_draw : Fun K "_law_draw" "_law_draw" s__law_draw f__law_draw fd__law_draw
  b__law_draw : Binds K fd__law_draw ["_law_pen_here", "_law_span"] []
  g__law_draw : mg "_law_draw" = some (.ref f__law_draw)
  f__law_pick : Addr
  fd__law_pick : FuncData
  F__law_pick : Fun K "_law_pick" "_law_pick" s__law_pick f__law_pick fd__law_pick
  b__law_pick : Binds K fd__law_pick ["_law_pen_here", "_law_menu"] []
  g__law_pick : mg "_law_pick" = some (.ref f__law_pick)
  f__law_great : Addr
  fd__law_great : FuncData
  F__law_great : Fun K "_law_great" "_law_great" s__law_great f__law_great fd__law_great
  b__law_great : Binds K fd__law_great ["_law_pen_here", "_law_figures"] []
  g__law_great : mg "_law_great" = some (.ref f__law_great)
  f__law_told : Addr
  fd__law_told : FuncData
  F__law_told : Fun K "_law_told" "_law_told" s__law_told f__law_told fd__law_told
  b__law_told : Binds K fd__law_told ["_law_call"] []
  g__law_told : mg "_law_told" = some (.ref f__law_told)
  f__law_sent : Addr
  fd__law_sent : FuncData
  F__law_sent : Fun K "_law_sent" "_law_sent" s__law_sent f__law_sent fd__law_sent
  b__law_sent : Binds K fd__law_sent ["_law_deal", "_law_want", "_law_step_here", "_law_shift"] []
  g__law_sent : mg "_law_sent" = some (.ref f__law_sent)
  f__law_cost : Addr
  fd__law_cost : FuncData
  F__law_cost : Fun K "_law_cost" "_law_cost" s__law_cost f__law_cost fd__law_cost
  b__law_cost : Binds K fd__law_cost ["_law_deal", "_law_step_here", "_law_wants_here", "_law_shift"] []
  g__law_cost : mg "_law_cost" = some (.ref f__law_cost)
  f__law_step : Addr
  fd__law_step : FuncData
  F__law_step : Fun K "_law_step" "_law_step" s__law_step f__law_step fd__law_step
  b__law_step : Binds K fd__law_step ["_law_pen_here"] []
  g__law_step : mg "_law_step" = some (.ref f__law_step)
  f__law_wants : Addr
  fd__law_wants : FuncData
  F__law_wants : Fun K "_law_wants" "_law_wants" s__law_wants f__law_wants fd__law_wants
  b__law_wants : Binds K fd__law_wants ["_law_pen_here", "_law_last"] []
  g__law_wants : mg "_law_wants" = some (.ref f__law_wants)
  f__law_scaled : Addr
  fd__law_scaled : FuncData
  F__law_scaled : Fun K "_law_scaled" "_law_scaled" s__law_scaled f__law_scaled fd__law_scaled
  b__law_scaled : Binds K fd__law_scaled ["_law_wants_here", "_law_times", "_law_steps"] []
  g__law_scaled : mg "_law_scaled" = some (.ref f__law_scaled)
  f__law_free_right : Addr
  fd__law_free_right : FuncData
  F__law_free_right : Fun K "_law_free_right" "_law_free_right" s__law_free_right f__law_free_right fd__law_free_right
  b__law_free_right : Binds K fd__law_free_right ["_law_pen_here", "_law_deal", "_law_times"] []
  g__law_free_right : mg "_law_free_right" = some (.ref f__law_free_right)
  f__law_best_right : Addr
  fd__law_best_right : FuncData
  F__law_best_right : Fun K "_law_best_right" "_law_best_right" s__law_best_right f__law_best_right fd__law_best_right
  b__law_best_right : Binds K fd__law_best_right ["_law_pen_here", "_law_deal", "_law_times"] []
  g__law_best_right : mg "_law_best_right" = some (.ref f__law_best_right)
  f__law_refused_right : Addr
  fd__law_refused_right : FuncData
  F__law_refused_right : Fun K "_law_refused_right" "_law_refused_right" s__law_refused_right f__law_refused_right fd__law_refused_right
  b__law_refused_right : Binds K fd__law_refused_right ["_law_pen_here"] []
  g__law_refused_right : mg "_law_refused_right" = some (.ref f__law_refused_right)
  f_law : Addr
  fd_law : FuncData
  F_law : Fun K "law" "law" s_law f_law fd_law
  b_law : Binds K fd_law ["_law_script"] []
  g_law : mg "law" = some (.ref f_law)
  c__law_refused_right : Addr
  P__law_refused_right : Addr
  FC__law_refused_right : ∃ oc od kV doc pm an ct osl, fd__law_refused_right = PySem.W.fnOf "_law_refused_right" "_law_refused_right" (defArgs s__law_refused_right) (defBody s__law_refused_right) (defScope s__law_refused_right) .none kV doc pm an (.ref c__law_refused_right) ct ∧ K.lookup f__law_refused_right = some ⟨oc, od, .func (PySem.W.fnOf "_law_refused_right" "_law_refused_right" (defArgs s__law_refused_right) (defBody s__law_refused_right) (defScope s__law_refused_right) .none kV doc pm an (.ref c__law_refused_right) ct), osl⟩ ∧ PySem.W.codeIn K (.ref c__law_refused_right) "_law_refused_right" = true
  z_bool : mg "bool" = none
  z_int : mg "int" = none
  z_isinstance : mg "isinstance" = none
  z_len : mg "len" = none
  z_list : mg "list" = none
  z_min : mg "min" = none
  z_range : mg "range" = none
  z_sum : mg "sum" = none
  z_tuple : mg "tuple" = none
  oc_Deal : OwnC K C_Deal
  ic_Deal : IsC K C_Deal
  ne_Deal : PySem.W.findIn K (.ref C_Deal) "__ne__" = some (some (.builtin "object.__ne__"))
  mo_Deal : PySem.W.mroIn K C_Deal (.type "object") = some true
theorem fl_Deal_houses (a0 a1 a2 : Tr) : List.lookup ("houses" : Str) [(("houses" : Str), a0), (("block" : Str), a1), (("shift" : Str), a2)] = some a0 := rfl
theorem pt_Deal_houses (a0 : Tr) : putT ("houses" : Str) a0 [] = [(("houses" : Str), a0)] := rfl
theorem fl_Deal_block (a0 a1 a2 : Tr) : List.lookup ("block" : Str) [(("houses" : Str), a0), (("block" : Str), a1), (("shift" : Str), a2)] = some a1 := rfl
theorem pt_Deal_block (a0 a1 : Tr) : putT ("block" : Str) a1 [(("houses" : Str), a0)] = [(("houses" : Str), a0), (("block" : Str), a1)] := rfl
theorem fq_Deal_1_0 (a0 : Tr) : List.lookup ("houses" : Str) [(("houses" : Str), a0)] = some a0 := rfl
theorem fl_Deal_shift (a0 a1 a2 : Tr) : List.lookup ("shift" : Str) [(("houses" : Str), a0), (("block" : Str), a1), (("shift" : Str), a2)] = some a2 := rfl
theorem pt_Deal_shift (a0 a1 a2 : Tr) : putT ("shift" : Str) a2 [(("houses" : Str), a0), (("block" : Str), a1)] = [(("houses" : Str), a0), (("block" : Str), a1), (("shift" : Str), a2)] := rfl
theorem fq_Deal_2_0 (a0 a1 : Tr) : List.lookup ("houses" : Str) [(("houses" : Str), a0), (("block" : Str), a1)] = some a0 := rfl
theorem fq_Deal_2_1 (a0 a1 : Tr) : List.lookup ("block" : Str) [(("houses" : Str), a0), (("block" : Str), a1)] = some a1 := rfl
abbrev gK {w : World} {K : PySem.W.Frag} {mg : Str → Option Value} (T : Tx w K mg) : Gb := ⟨K, [(T.P__law_refused_right, "_law_refused_right.<locals>.<lambda>")], ("cells", "at", "left"), false⟩
end K27
namespace K27
open PySem L2 DS VL MT
section
variable {P : Program} {w : World} {K : PySem.W.Frag} {mg : Str → Option Value} {base : Heap}
/-! checks, with what they raise -/
def isIntT : Tr → Option Bool
  | .int _ => some true
  | .bl _ => some false
  | .non => some false
  | .str _ => some false
  | .tup _ => some false
  | .lst _ => some false
  | .dct _ => some false
  | .ins _ _ => some false
  | _ => none
def isWhT : Tr → Option Bool
  | .int i => some (decide (0 ≤ i))
  | t => isIntT t
def okQ (b : Option Bool) (y z : Prop) : Prop := match b with
  | some true => y
  | some false => z
  | none => False
def sp_is_integer (T : Tx w K mg) : VSp
  | [t], n, Q, _ => ∃ b, isIntT t = some b ∧ Q (.bl b) n
  | _, _, _, _ => False
def sp_is_whole (T : Tx w K mg) : VSp
  | [t], n, Q, _ => ∃ b, isWhT t = some b ∧ Q (.bl b) n
  | _, _, _, _ => False
def sp_need_integer (T : Tx w K mg) : VSp
  | [t], n, Q, x => okQ (isIntT t) (Q .non n) (x T.C_BadValue [("value", t)] n)
  | _, _, _, _ => False
def isPosT : Tr → Option Bool
  | .int i => some (decide (0 < i))
  | t => isIntT t
def isStpT : Tr → Option Bool
  | .int i => some (!decide (i = 0))
  | t => isIntT t
def isItT : Tr → Option Bool
  | .lst _ => some true
  | .tup _ => some true
  | .int _ => some false
  | .bl _ => some false
  | .non => some false
  | .str _ => some false
  | _ => none
def sp_need_positive (T : Tx w K mg) : VSp
  | [t], n, Q, x => okQ (isPosT t) (Q .non n) (x T.C_BadValue [("value", t)] n)
  | _, _, _, _ => False
def sp_need_step (T : Tx w K mg) : VSp
  | [t], n, Q, x => okQ (isStpT t) (Q .non n) (x T.C_BadValue [("value", t)] n)
  | _, _, _, _ => False
def sp_need_items (T : Tx w K mg) : VSp
  | [t], n, Q, x => okQ (isItT t) (Q .non n) (x T.C_BadValue [("value", t)] n)
  | _, _, _, _ => False
def sp_is_step (T : Tx w K mg) : VSp
  | [t], n, Q, _ => ∃ b, isStpT t = some b ∧ Q (.bl b) n
  | _, _, _, _ => False
def dealT (T : Tx w K mg) (b h s : Int) : Tr := .ins T.C_Deal [("houses", .int h), ("block", .int b), ("shift", .int s)]
def nb (b h : Int) : Int := if 1 < h then b else 1
def sp_common_factor (T : Tx w K mg) : VSp
  | [.int a, .int b], n, Q, _ => 0 ≤ b ∧ (0 < b ∨ 0 ≤ a) ∧ Q (.int (Int.gcd a b : Nat)) n
  | _, _, _, _ => False
def sp_Deal___init__ (T : Tx w K mg) : VIp
  | [.int b, .int h, .int s], n, Q, _ => 0 < b ∧ 0 < h ∧ B 300 b ∧ B 300 h ∧ Q [("houses", .int h), ("block", .int (nb b h)), ("shift", .int (s % (nb b h * h)))] n
  | _, _, _, _ => False
def isDlT : Tr → Option Bool
  | .ins _ _ => some true
  | .int _ => some false
  | .non => some false
  | .str _ => some false
  | .tup _ => some false
  | _ => none
def sp_need_deal (T : Tx w K mg) : VSp
  | [t], n, Q, x => (∀ C fs, t = .ins C fs → C = T.C_Deal) ∧ okQ (isDlT t) (Q .non n) (x T.C_BadValue [("value", t)] n)
  | _, _, _, _ => False
def sp_met (T : Tx w K mg) : VSp
  | [.tup [.int f1, .int n1], .tup [.int f2, .int n2], .int W], n, Q, _ => 0 < W ∧ ∀ t, (t = match met W f1 n1 f2 n2 with | some (f, m) => .tup [.int f, .int m] | none => .non) → Q t n
  | _, _, _, _ => False
def lastP (T : Tx w K mg) (f : Tr) (p : Tr → Option Bool) : Prop := (f = .opq (.ref T.f_is_step) ∧ p = isStpT) ∨ (f = .opq (.ref T.f_is_whole) ∧ p = isWhT)
def wantB3 (p : Tr → Option Bool) (a b c : Tr) : Option Bool := match isIntT a with
  | some true => match isIntT b with
    | some true => p c
    | r => r
  | r => r
def wantL (p : Tr → Option Bool) : List Tr → Option Bool
  | [a, b, c] => wantB3 p a b c
  | _ => some false
def wantB (p : Tr → Option Bool) : Tr → Option Bool
  | .lst ts => wantL p ts
  | .tup ts => wantL p ts
  | .int _ => some false
  | .bl _ => some false
  | .non => some false
  | .str _ => some false
  | _ => none
def wantsQ (p : Tr → Option Bool) (y : Prop) (z : Tr → Prop) : List Tr → Prop
  | [] => y
  | t :: ts => okQ (wantB p t) (wantsQ p y z ts) (z t)
def seqT (t : Tr) (ts : List Tr) : Prop := t = .lst ts ∨ t = .tup ts
def sp_need_wants (T : Tx w K mg) : VSp
  | [t, f], n, Q, x => ∃ p, lastP T f p ∧ okQ (isItT t) (∀ ts, seqT t ts → wantsQ p (okQ (some (decide (ts ≠ []))) (Q .non n) (x T.C_BadValue [("value", t)] n)) (fun u => x T.C_BadValue [("value", u)] n) ts) (x T.C_BadValue [("value", t)] n)
  | _, _, _, _ => False
def wantsS (p : Tr → Option Bool) (t : Tr) (y : Prop) (z : Tr → Prop) : Prop := okQ (isItT t) (∀ ts, seqT t ts → wantsQ p (okQ (some (decide (ts ≠ []))) y (z t)) z ts) (z t)
def badX (T : Tx w K mg) (x : XQ) (n : Nat) (u : Tr) : Prop := x T.C_BadValue [("value", u)] n
abbrev I3 := Int × Int × Int
def isW1 (t : Tr) (a : I3) : Prop := seqT t [.int a.1, .int a.2.1, .int a.2.2]
def isWs (t : Tr) (l : List I3) : Prop := ∃ ts, seqT t ts ∧ RL isW1 ts l
structure BW (l : List I3) : Prop where
  len : l.length ≤ 900
  b1 : ∀ a ∈ l, B 150 a.1
  b2 : ∀ a ∈ l, B 150 a.2.1
  b3 : ∀ a ∈ l, B 150 a.2.2
structure OkD (b h s : Int) : Prop where
  b0 : 0 < b
  h0 : 0 < h
  s0 : 0 ≤ s
  bb : B 150 b
  hb : B 150 h
  sb : B 150 s
def sp_cost_at (T : Tx w K mg) : VSp
  | [d, .int p, t, .int sh], n, Q, _ => ∃ b h s l, d = dealT T b h s ∧ OkD b h s ∧ isWs t l ∧ BW l ∧ 0 < p ∧ B 150 p ∧ 0 < b * h / p ∧ Q (.int (cst b h p (b * h / p) s sh l)) n
  | _, _, _, _ => False
def spO_shift_cost (T : Tx w K mg) : VSp
  | [d, .int st, t, .int sh], n, Q, _ => ∃ b h s l, d = dealT T b h s ∧ OkD b h s ∧ isWs t l ∧ l ≠ [] ∧ BW l ∧ (∀ a ∈ l, 0 ≤ a.2.2) ∧ st ≠ 0 ∧ Q (.int (cst b h (Int.gcd st b : Nat) (b * h / (Int.gcd st b : Nat)) s sh l)) n
  | _, _, _, _ => False
/-- the tried shifts -/
def turns (p R s rest : Int) (l : List I3) : List Int := l.map fun a => rest + p * (((a.1 + s) / p - (a.2.1 + rest) / p) % R)
def tried (p R s : Int) (l : List I3) : List Int := (0 :: l.map fun a => -a.2.1 % p).flatMap fun rest => rest :: turns p R s rest l
def sp_tried_shifts (T : Tx w K mg) : VSp
  | [d, .int p, t], n, Q, _ => ∃ b h s l, d = dealT T b h s ∧ OkD b h s ∧ isWs t l ∧ BW l ∧ 0 < p ∧ B 150 p ∧ 0 < b * h / p ∧ Q (.lst ((tried p (b * h / p) s l).map Tr.int)) n
  | _, _, _, _ => False
def optT : Option (Int × Int) → Tr
  | some (f, m) => .tup [.int f, .int m]
  | none => .non
def bestS (b h s st : Int) (l : List I3) : Option (Int × Int) := (tried (Int.gcd st b : Nat) (b * h / (Int.gcd st b : Nat)) s l).foldl (bstep fun sh => cst b h (Int.gcd st b : Nat) (b * h / (Int.gcd st b : Nat)) s sh l) none
def spO_best_shift (T : Tx w K mg) : VSp
  | [d, .int st, t], n, Q, _ => ∃ b h s l, d = dealT T b h s ∧ OkD b h s ∧ isWs t l ∧ l ≠ [] ∧ BW l ∧ (∀ a ∈ l, 0 ≤ a.2.2) ∧ st ≠ 0 ∧ ∀ r, r = optT (bestS b h s st l) → Q r n
  | _, _, _, _ => False
def freeStep (b h s : Int) (o : Option (Int × Int)) (a : I3) : Option (Int × Int) := match o with
  | none => none
  | some (f, m) => met (b * h) f m (((Int.gcd a.2.2 b : Nat) * ((a.1 + s) / (Int.gcd a.2.2 b : Nat)) - a.2.1) % (b * h)) (Int.gcd a.2.2 b : Nat)
def stretch (b h s : Int) (a : I3) : Int × Int := (((Int.gcd a.2.2 b : Nat) * ((a.1 + s) / (Int.gcd a.2.2 b : Nat)) - a.2.1) % (b * h), (Int.gcd a.2.2 b : Nat))
def freeS (b h s : Int) : List I3 → Option (Int × Int)
  | [] => none
  | a :: l => match l.foldl (freeStep b h s) (some (stretch b h s a)) with
    | some (f, m) => some (f % (b * h), m)
    | none => none
def spO_free_shifts (T : Tx w K mg) : VSp
  | [d, t], n, Q, _ => ∃ b h s l, d = dealT T b h s ∧ OkD b h s ∧ isWs t l ∧ l ≠ [] ∧ BW l ∧ (∀ a ∈ l, a.2.2 ≠ 0) ∧ ∀ r, r = (if h = 1 then .tup [.int 0, .int 1] else optT (freeS b h s l)) → Q r n
  | _, _, _, _ => False
def spR_shift_cost (T : Tx w K mg) : VSp
  | [d, st, t, sh], n, _, x => okQ (isDlT d) ((∃ b h s, d = dealT T b h s) ∧ okQ (isStpT st) (wantsS isWhT t (okQ (isIntT sh) False (badX T x n sh)) (badX T x n)) (badX T x n st)) (badX T x n d)
  | _, _, _, _ => False
def spR_best_shift (T : Tx w K mg) : VSp
  | [d, st, t], n, _, x => okQ (isDlT d) ((∃ b h s, d = dealT T b h s) ∧ okQ (isStpT st) (wantsS isWhT t False (badX T x n)) (badX T x n st)) (badX T x n d)
  | _, _, _, _ => False
def spR_free_shifts (T : Tx w K mg) : VSp
  | [d, t], n, _, x => okQ (isDlT d) ((∃ b h s, d = dealT T b h s) ∧ wantsS isStpT t False (badX T x n)) (badX T x n d)
  | _, _, _, _ => False
def sp_shift_cost (T : Tx w K mg) : VSp := fun ts n Q x => spO_shift_cost T ts n Q x ∨ spR_shift_cost T ts n Q x
def sp_best_shift (T : Tx w K mg) : VSp := fun ts n Q x => spO_best_shift T ts n Q x ∨ spR_best_shift T ts n Q x
def sp_free_shifts (T : Tx w K mg) : VSp := fun ts n Q x => spO_free_shifts T ts n Q x ∨ spR_free_shifts T ts n Q x
def sp__law_great (T : Tx w K mg) : VSp
  | [.pen, .int f], n, Q, _ => 7 ≤ f ∧ f ≤ 28 ∧ n ≤ 900000 ∧ ∀ d n', 0 ≤ d → B 120 d → n' ≤ n + 5 → Q (.int d) n'
  | _, _, _, _ => False
/-- the law's own words -/
def w3 (a : I3) : Tr := .tup [.int a.1, .int a.2.1, .int a.2.2]
def sent (b h m : Int) (a : I3) (st sh : Int) : Int := sm (fun k => dH b h (a.1 + m) (a.2.1 + sh) st k) (b * h).toNat
structure OkL (b h m : Int) : Prop where
  b0 : 0 < b
  b1 : b ≤ 5
  h0 : 0 < h
  h1 : h ≤ 4
  m0 : -20 ≤ m
  m1 : m ≤ 20
structure OkW (l : List I3) : Prop where
  len : l.length ≤ 3
  ne : l ≠ []
  a0 : ∀ a ∈ l, -15 ≤ a.1 ∧ a.1 ≤ 14
  a1 : ∀ a ∈ l, -19 ≤ a.2.1 ∧ a.2.1 ≤ 18
  a2 : ∀ a ∈ l, -2 ≤ a.2.2 ∧ a.2.2 ≤ 12
def sp__law_sent (T : Tx w K mg) : VSp
  | [.tup [.int b, .int h, .int m], .tup [.int f, .int o, .int wt], .int st, .int sh], n, Q, _ => OkL b h m ∧ -2 ≤ st ∧ st ≤ 12 ∧ Q (.int (sent b h m (f, o, wt) st sh)) n
  | _, _, _, _ => False
def sp__law_cost (T : Tx w K mg) : VSp
  | [.tup [.int b, .int h, .int m], .int st, .lst ts, .int sh], n, Q, _ => OkL b h m ∧ -2 ≤ st ∧ st ≤ 12 ∧ ∃ l, ts = l.map w3 ∧ OkW l ∧ Q (.int (l.map fun a => a.2.2 * sent b h m a st sh).sum) n
  | _, _, _, _ => False
def sp__law_step (T : Tx w K mg) : VSp
  | [.pen], n, Q, _ => n ≤ 900000 ∧ ∀ s, s ≠ 0 → -2 ≤ s → s ≤ 12 → Q (.int s) (n + 1)
  | _, _, _, _ => False
def sp__law_wants (T : Tx w K mg) : VSp
  | [.pen, .str x], n, Q, _ => n ≤ 800000 ∧ ∀ l n', OkW l → (∀ a ∈ l, if x = "step" then a.2.2 ≠ 0 else 0 ≤ a.2.2) → n' ≤ n + 20 → Q (.lst (l.map w3)) n'
  | _, _, _, _ => False
def scl (c : Int) (s : Bool) (a : I3) : I3 := (a.1 * c, a.2.1 * c, if s = true then a.2.2 * c else a.2.2)
def sp__law_scaled (T : Tx w K mg) : VSp
  | [.lst ts, .int c, .bl s], n, Q, _ => ∃ l, ts = l.map w3 ∧ OkW l ∧ Q (.lst ((l.map (scl c s)).map w3)) n
  | _, _, _, _ => False
def sp__law_refused_right (T : Tx w K mg) : VSp
  | [.pen], n, Q, _ => n ≤ 800000 ∧ Q (.bl true) (n + 7)
  | _, _, _, _ => False
def sp__law_free_right (T : Tx w K mg) : VSp
  | [.pen, .tup [.int b, .int h, .int m], .int c], n, Q, _ => OkL b h m ∧ 0 < c ∧ B 121 c ∧ n ≤ 800000 ∧ ∀ n', n' ≤ n + 20 → Q (.bl true) n'
  | _, _, _, _ => False
def sp__law_best_right (T : Tx w K mg) : VSp
  | [.pen, .tup [.int b, .int h, .int m], .int c], n, Q, _ => OkL b h m ∧ 0 < c ∧ B 121 c ∧ n ≤ 800000 ∧ ∀ n', n' ≤ n + 30 → Q (.bl true) n'
  | _, _, _, _ => False
end
end K27
namespace K27
open PySem L2 DS VL MT NdefX
set_option pp.maxSteps 2000
local macro_rules | `(tactic| walk_at "v") => `(tactic| try dsimp only [vNext, vSeq, vBreak, vCont, vDrop, vRet, vRetN, vIfS, vSet, vFrz, frz, frzS, vSetOL, gNm, VL.gNil, VL.gCons, gTupN, vAsg, parQ, vPar, par3Q, vPar3, vFor, iLst, lstQ, VL.iTup, tupQ, VL.iRng1, rng1Q, VL.iRng2, rng2Q, vVar, vv, gt, vC, vOp, vUn, vI, vI0, vU, vEqS, isNonT, isNQ, vIsN, vbl, vIf, vAndV, vOrV, vNotV, vChain, vTest, vNot, vYes, vNo, vAnd, vOr, vNil, vCons, vTup, vLst, lkQ, fldC, vFldC, fldO, vFldO, vCall, methQ, vMeth, vMake, vBinII, vBinIZ, vNegOwn, vEqII, ends, endsI, oiQ, startT, startI, vCB, cInt, cAbs, c2I, cDivmod, cLen, cList, cTuple, cSum, cAll, cAny, cSorted, ixL, ixT, ixQ, oNone, oiQ2, oSome, slQ, vSlL, vCat, truT, truQ, vTru, augQ, augS, vAug, isBt, isQ, cIsB, isCQ, cIsC, isSeq, vIsSeq, vEqD, inSQ, vIn, appQ, vApp, setK, setQ, vSetI, popK, popQ, vPop, olQ, vLenO, vIxO, vTruO, fsQ, vFldS, putT, self2P, self2Q, vSelf2, vLc, wipeT, vNever, revQ, vRev, vParO, vRaise1, toldQ, vToldA, hide, hideS, vParO2, gSeqN, seqV, iSeqV, vLtT, ixoQ, vIndex, defQ, vCallL2, ixS, vToldM, ite_tt, ite_ft, List.set, List.map, List.length, List.append, List.replicate, List.drop, List.nil_append, List.cons_append, List.append_nil, Nat.sub_self, Nat.reduceSub, List.replicate_zero, List.replicate_succ, Nat.reduceAdd, Bool.not_true, Bool.not_false, brE_true, brE_false, brT_true, brT_false, brS_true, brS_false, Bt.nm, vdraw, vpick, vten, vbegin, sp_is_integer, sp_is_whole, sp_need_integer, sp_need_positive, sp_need_step, sp_need_items, sp_is_step, dealT, sp_common_factor, sp_Deal___init__, sp_need_deal, sp_met, sp_need_wants, sp_cost_at, sp_tried_shifts, sp_shift_cost, sp_best_shift, sp_free_shifts, fl_Deal_houses, pt_Deal_houses, fl_Deal_block, pt_Deal_block, fq_Deal_1_0, fl_Deal_shift, pt_Deal_shift, fq_Deal_2_0, fq_Deal_2_1])
local macro_rules | `(tactic| walk_at "b") => `(tactic| first
  | with_reducible assumption
  | exact B.lit (k := 70) (by decide)
  | exact B.add (by walk_at "b") (by walk_at "b")
  | exact B.sub (by walk_at "b") (by walk_at "b")
  | exact B.neg (by walk_at "b")
  | exact B.mul (by walk_at "b") (by walk_at "b")
  | exact B.div (by walk_at "b")
  | exact B.mod (by walk_at "b") (by omega)
  | exact B.ite (by walk_at "b") (by walk_at "b")
  | exact B.ten _)
local macro_rules | `(tactic| walk_at "bb") => `(tactic| (with_reducible show B _ _; exact B.mono (by walk_at "b") (by first | decide | omega)))
local macro_rules | `(tactic| walk_at "sc") => `(tactic| first
  | with_reducible assumption
  | (with_reducible show (_ : Int) < 2 ^ 200; first | assumption | exact lt200 (by omega))
  | rfl
  | (show CMulA _ _; first | exact CMulA.s1 (by omega) (by omega) | exact CMulA.s2 (by omega) (by omega) | exact cmula (by walk_at "b") (by walk_at "b") (by first | decide | omega))
  | (show CDivW _ _; exact cdivw (by omega) (by walk_at "b") (by first | decide | omega))
  | (show CPow _ _; exact ⟨by decide, by decide, by decide⟩)
  | walk_at "bb"
  | omega
  | exact Nat.le_of_ble_eq_true rfl)
local macro_rules | `(tactic| walk_at "w") => `(tactic| (walk_at "v"; repeat ((first | refine And.intro (by walk_at "sc") ?_ | (with_reducible show Exists fun t => And (atI _ _ = some t) _; refine Exists.intro _ (And.intro rfl ?_))); walk_at "v")))

section
variable {P : Program} {w : World} {K : PySem.W.Frag} {mg : Str → Option Value} {base : Heap}
theorem okX_BadValue (T : Tx w K mg) : FnOk PR w K mg base CX0 1 T.f_BadValue___init__ T.fd_BadValue___init__ ["self", "value"] (spX1 T.C_BadValue "value") := by
  obtain ⟨oc, od, osl, kV, doc, pm, an, cda, ct, cc, ccl, cdd, ccs, vsC, file, tf, cl, cld, csl, cdC, e, lk, hcd, hcode, hvs, hfile, hcell, hC⟩ := T.X_BadValue.fn
  rw [e]
  refine sinit_ok (N := ["self", "value", "__class__"]) (k := 0) lk hcd hcode hvs hfile hcell hC T.X_BadValue.sub T.X_BadValue.sup T.X_BadValue.top T.X_BadValue.any T.X_BadValue.ini T.X_BadValue.ve T.X_BadValue.oex (nscope_by (by decide +kernel)) rfl rfl rfl (fun vs H Q E h => ?_) (fun L => rfl) (fun L => rfl) (fun L => rfl) (fun env => rfl) (fun env => rfl) (fun A outer s H vs Q E h => ?_)
  · obtain ⟨a, v, rfl, _⟩ := h
    rfl
  · obtain ⟨a, v, rfl, ha, q⟩ := h
    refine ⟨a, _, _, rfl, ha, pa_cons (pv 1) pa_nil, pss_one (ps_ost (pv 0) (pv 1)), ?_⟩
    refine ⟨v, rfl, Nat.le_of_ble_eq_true rfl, ha, v, rfl, .ref a, rfl, a, T.C_BadValue, rfl, T.X_BadValue.oex, T.X_BadValue.nof, .inl ⟨ha, fun dx nd ne => q dx nd ne⟩⟩
theorem ok_is_integer (T : Tx w K mg) : FnOk PR w K mg base (L2.CX PR w) 1 T.f_is_integer T.fd_is_integer ["value"] (lSp (gK T) 1 (sp_is_integer T)) := by
  refine ok_v (fun _ l b => T.F_is_integer.okX sc_is_integer l b) rfl (fun cdv A outer s H E F0 xq hr => ?_)
  refine ⟨_, (vss_one (vs_ret (ve_and (ve_callB (cv_isB .int rfl) (by rfl) T.z_isinstance (by decide +kernel) (va_cons (vpv 0) (va_cons (ve_opq (pe_bltn (v := .ty "int") (by rfl) T.z_int (by decide +kernel) rfl)) va_nil))) (ve_one (ve_not (ve_callB (cv_isB .bool rfl) (by rfl) T.z_isinstance (by decide +kernel) (va_cons (vpv 0) (va_cons (ve_opq (pe_bltn (v := .ty "bool") (by rfl) T.z_bool (by decide +kernel) rfl)) va_nil)))))))), fun ts n Q hl h => ?_⟩
  match ts, h with
  | [t], ⟨b, hb, h⟩ => cases t <;> (try cases hb) <;> walk_at "w" <;> exact h
theorem ok_is_whole (T : Tx w K mg) : FnOk PR w K mg base (L2.CX PR w) 2 T.f_is_whole T.fd_is_whole ["value"] (lSp (gK T) 1 (sp_is_whole T)) := by
  refine ok_v (fun _ l b => T.F_is_whole.okX sc_is_whole l b) rfl (fun cdv A outer s H E F0 xq hr => ?_)
  refine ⟨_, (vss_one (vs_ret (ve_and (ve_call (ok_is_integer T) (hr.mono (by decide)) (by rfl) T.g_is_integer T.F_is_integer.kp T.b_is_integer .nil (fun _ => .nil) hx_of (va_cons (vpv 0) va_nil)) (ve_one (ve_cmp ov_ge (vpv 0) ve_int (nomark _)))))), fun ts n Q hl h => ?_⟩
  match ts, h with
  | [t], ⟨b, hb, h⟩ =>
    cases t <;> (try cases hb) <;> walk_at "w" <;> refine ⟨_, rfl, ?_⟩ <;> walk_at "w" <;> exact h
theorem ok_need_integer (T : Tx w K mg) : FnOk PR w K mg base (L2.CX PR w) 4 T.f_need_integer T.fd_need_integer ["value"] (lSp (gK T) 1 (sp_need_integer T)) := by
  refine ok_v (fun _ l b => T.F_need_integer.okX sc_need_integer l b) rfl (fun cdv A outer s H E F0 xq hr => ?_)
  refine ⟨_, (vss_one (vs_if (vt_not (vt_val (ve_call (ok_is_integer T) (hr.mono (by decide)) (by rfl) T.g_is_integer T.F_is_integer.kp T.b_is_integer .nil (fun _ => .nil) hx_of (va_cons (vpv 0) va_nil)))) (vss_one (vs_raise1 (C := T.C_BadValue) (f := "value") (ps_raise rfl (takes_of rfl rfl rfl rfl) (pmk_oex T.X_BadValue.oex T.X_BadValue.iC T.X_BadValue.tI (okX_BadValue T) (hr.mono (by decide)) T.bX_BadValue .nil pass0 rfl T.gC_BadValue (pa_cons (vpv 0) pa_nil))))) vss_nil)), fun ts n Q hl h => ?_⟩
  match ts, h with
  | [t], h =>
    cases t <;> (try exact h.elim) <;> walk_at "w" <;> refine ⟨_, rfl, ?_⟩ <;> walk_at "w" <;> (try (show brS false _ _ _ _ _; walk_at "w")) <;> (try (show brS true _ _ _ _ _; walk_at "w")) <;> exact h
theorem okQ_t {b : Bool} {y z : Prop} (h : okQ (some b) y z) : (b = true → y) ∧ (b = false → z) := by
  cases b with
  | true => exact ⟨fun _ => h, (fun q => nomatch q)⟩
  | false => exact ⟨(fun q => nomatch q), fun _ => h⟩
theorem ok_need_positive (T : Tx w K mg) : FnOk PR w K mg base (L2.CX PR w) 4 T.f_need_positive T.fd_need_positive ["value"] (lSp (gK T) 1 (sp_need_positive T)) := by
  refine ok_v (fun _ l b => T.F_need_positive.okX sc_need_positive l b) rfl (fun cdv A outer s H E F0 xq hr => ?_)
  refine ⟨_, (vss_one (vs_if (PW.pt (vw_or (vt_not (vt_val (ve_call (ok_is_whole T) (hr.mono (by decide)) (by rfl) T.g_is_whole T.F_is_whole.kp T.b_is_whole .nil (fun _ => .nil) hx_of (va_cons (vpv 0) va_nil)))) (vw_or1 (vt_cmp ov_eqS (vpv 0) ve_int (nomark _))))) (vss_one (vs_raise1 (C := T.C_BadValue) (f := "value") (ps_raise rfl (takes_of rfl rfl rfl rfl) (pmk_oex T.X_BadValue.oex T.X_BadValue.iC T.X_BadValue.tI (okX_BadValue T) (hr.mono (by decide)) T.bX_BadValue .nil pass0 rfl T.gC_BadValue (pa_cons (vpv 0) pa_nil))))) vss_nil)), fun ts n Q hl h => ?_⟩
  match ts, h with
  | [t], h =>
    cases t with
    | int i =>
      obtain ⟨h1, h2⟩ := okQ_t h
      walk_at "w"
      refine ⟨_, rfl, ?_⟩
      refine brT_n (fun z => ?_) (fun z => ?_)
      · walk_at "w"
        exact h2 (decide_eq_false (by omega))
      · walk_at "w"
        refine brS_d (fun q => ?_) (fun q => ?_)
        · walk_at "w"
          exact h2 (decide_eq_false (by omega))
        · exact h1 (decide_eq_true (by omega))
    | _ => first | exact h.elim | (walk_at "w"; refine ⟨_, rfl, ?_⟩; walk_at "w"; (try (show brT true _ _ _ _ _; walk_at "w")); exact h)
theorem ok_need_step (T : Tx w K mg) : FnOk PR w K mg base (L2.CX PR w) 4 T.f_need_step T.fd_need_step ["value"] (lSp (gK T) 1 (sp_need_step T)) := by
  refine ok_v (fun _ l b => T.F_need_step.okX sc_need_step l b) rfl (fun cdv A outer s H E F0 xq hr => ?_)
  refine ⟨_, (vss_one (vs_if (PW.pt (vw_or (vt_not (vt_val (ve_call (ok_is_integer T) (hr.mono (by decide)) (by rfl) T.g_is_integer T.F_is_integer.kp T.b_is_integer .nil (fun _ => .nil) hx_of (va_cons (vpv 0) va_nil)))) (vw_or1 (vt_cmp ov_eqS (vpv 0) ve_int (nomark _))))) (vss_one (vs_raise1 (C := T.C_BadValue) (f := "value") (ps_raise rfl (takes_of rfl rfl rfl rfl) (pmk_oex T.X_BadValue.oex T.X_BadValue.iC T.X_BadValue.tI (okX_BadValue T) (hr.mono (by decide)) T.bX_BadValue .nil pass0 rfl T.gC_BadValue (pa_cons (vpv 0) pa_nil))))) vss_nil)), fun ts n Q hl h => ?_⟩
  match ts, h with
  | [t], h =>
    cases t with
    | int i =>
      obtain ⟨h1, h2⟩ := okQ_t h
      walk_at "w"
      refine ⟨_, rfl, ?_⟩
      walk_at "w"
      (try (show brT false _ _ _ _ _; walk_at "w"))
      refine brS_d (fun q => ?_) (fun q => ?_)
      · walk_at "w"
        exact h2 (by rw [decide_eq_true q]; rfl)
      · exact h1 (by rw [decide_eq_false q]; rfl)
    | _ => first | exact h.elim | (walk_at "w"; refine ⟨_, rfl, ?_⟩; walk_at "w"; (try (show brT true _ _ _ _ _; walk_at "w")); exact h)
theorem ok_need_items (T : Tx w K mg) : FnOk PR w K mg base (L2.CX PR w) 4 T.f_need_items T.fd_need_items ["value"] (lSp (gK T) 1 (sp_need_items T)) := by
  refine ok_v (fun _ l b => T.F_need_items.okX sc_need_items l b) rfl (fun cdv A outer s H E F0 xq hr => ?_)
  refine ⟨_, (vss_one (vs_if (vt_not (vt_val (ve_isSeq rfl (pe_callB call_isiT (by rfl) T.z_isinstance (by decide +kernel) (pa_cons (vpv 0) (pa_cons (pe_tup (pa_cons (pe_bltn (v := .ty "list") (by rfl) T.z_list (by decide +kernel) rfl) (pa_cons (pe_bltn (v := .ty "tuple") (by rfl) T.z_tuple (by decide +kernel) rfl) pa_nil))) pa_nil)))))) (vss_one (vs_raise1 (C := T.C_BadValue) (f := "value") (ps_raise rfl (takes_of rfl rfl rfl rfl) (pmk_oex T.X_BadValue.oex T.X_BadValue.iC T.X_BadValue.tI (okX_BadValue T) (hr.mono (by decide)) T.bX_BadValue .nil pass0 rfl T.gC_BadValue (pa_cons (vpv 0) pa_nil))))) vss_nil)), fun ts n Q hl h => ?_⟩
  match ts, h with
  | [t], h =>
    cases t <;> (try exact h.elim) <;> walk_at "w" <;> exact h
end
end K27
namespace K27
open PySem L2 DS VL MT NdefX
set_option pp.maxSteps 2000
local macro_rules | `(tactic| walk_at "v") => `(tactic| try dsimp only [vNext, vSeq, vBreak, vCont, vDrop, vRet, vRetN, vIfS, vSet, vFrz, frz, frzS, vSetOL, gNm, VL.gNil, VL.gCons, gTupN, vAsg, parQ, vPar, par3Q, vPar3, vFor, iLst, lstQ, VL.iTup, tupQ, VL.iRng1, rng1Q, VL.iRng2, rng2Q, vVar, vv, gt, vC, vOp, vUn, vI, vI0, vU, vEqS, isNonT, isNQ, vIsN, vbl, vIf, vAndV, vOrV, vNotV, vChain, vTest, vNot, vYes, vNo, vAnd, vOr, vNil, vCons, vTup, vLst, lkQ, fldC, vFldC, fldO, vFldO, vCall, methQ, vMeth, vMake, vBinII, vBinIZ, vNegOwn, vEqII, ends, endsI, oiQ, startT, startI, vCB, cInt, cAbs, c2I, cDivmod, cLen, cList, cTuple, cSum, cAll, cAny, cSorted, ixL, ixT, ixQ, oNone, oiQ2, oSome, slQ, vSlL, vCat, truT, truQ, vTru, augQ, augS, vAug, isBt, isQ, cIsB, isCQ, cIsC, isSeq, vIsSeq, vEqD, inSQ, vIn, appQ, vApp, setK, setQ, vSetI, popK, popQ, vPop, olQ, vLenO, vIxO, vTruO, fsQ, vFldS, putT, self2P, self2Q, vSelf2, vLc, wipeT, vNever, revQ, vRev, vParO, vRaise1, toldQ, vToldA, hide, hideS, vParO2, gSeqN, seqV, iSeqV, vLtT, ixoQ, vIndex, defQ, vCallL2, ixS, vToldM, ite_tt, ite_ft, List.set, List.map, List.length, List.append, List.replicate, List.drop, List.nil_append, List.cons_append, List.append_nil, Nat.sub_self, Nat.reduceSub, List.replicate_zero, List.replicate_succ, Nat.reduceAdd, Bool.not_true, Bool.not_false, brE_true, brE_false, brT_true, brT_false, brS_true, brS_false, Bt.nm, vdraw, vpick, vten, vbegin, sp_is_integer, sp_is_whole, sp_need_integer, sp_need_positive, sp_need_step, sp_need_items, sp_is_step, dealT, sp_common_factor, sp_Deal___init__, sp_need_deal, sp_met, sp_need_wants, sp_cost_at, sp_tried_shifts, sp_shift_cost, sp_best_shift, sp_free_shifts, fl_Deal_houses, pt_Deal_houses, fl_Deal_block, pt_Deal_block, fq_Deal_1_0, fl_Deal_shift, pt_Deal_shift, fq_Deal_2_0, fq_Deal_2_1])
local macro_rules | `(tactic| walk_at "b") => `(tactic| first
  | with_reducible assumption
  | exact B.lit (k := 70) (by decide)
  | exact B.add (by walk_at "b") (by walk_at "b")
  | exact B.sub (by walk_at "b") (by walk_at "b")
  | exact B.neg (by walk_at "b")
  | exact B.mul (by walk_at "b") (by walk_at "b")
  | exact B.div (by walk_at "b")
  | exact B.mod (by walk_at "b") (by omega)
  | exact B.ite (by walk_at "b") (by walk_at "b")
  | exact B.ten _)
local macro_rules | `(tactic| walk_at "bb") => `(tactic| (with_reducible show B _ _; exact B.mono (by walk_at "b") (by first | decide | omega)))
local macro_rules | `(tactic| walk_at "sc") => `(tactic| first
  | with_reducible assumption
  | (with_reducible show (_ : Int) < 2 ^ 200; first | assumption | exact lt200 (by omega))
  | rfl
  | (show CMulA _ _; first | exact CMulA.s1 (by omega) (by omega) | exact CMulA.s2 (by omega) (by omega) | exact cmula (by walk_at "b") (by walk_at "b") (by first | decide | omega))
  | (show CDivW _ _; exact cdivw (by omega) (by walk_at "b") (by first | decide | omega))
  | (show CPow _ _; exact ⟨by decide, by decide, by decide⟩)
  | walk_at "bb"
  | omega
  | exact Nat.le_of_ble_eq_true rfl)
local macro_rules | `(tactic| walk_at "w") => `(tactic| (walk_at "v"; repeat ((first | refine And.intro (by walk_at "sc") ?_ | (with_reducible show Exists fun t => And (atI _ _ = some t) _; refine Exists.intro _ (And.intro rfl ?_))); walk_at "v")))

section
variable {P : Program} {w : World} {K : PySem.W.Frag} {mg : Str → Option Value} {base : Heap}
theorem gcd_step {x y : Int} (hy : 0 < y) : Int.gcd y (x % y) = Int.gcd x y := by
  rw [Int.gcd_comm, gcd_mod ⟨1, (Int.mul_one _).symm⟩]
theorem ok_common_factor (T : Tx w K mg) : FnOk PR w K mg base (L2.CX PR w) 1 T.f_common_factor T.fd_common_factor ["one", "other"] (lSp (gK T) 2 (sp_common_factor T)) := by
  refine ok_v (fun _ l b => T.F_common_factor.okX sc_common_factor l b) rfl (fun cdv A outer s H E F0 xq hr => ?_)
  refine ⟨_, (vss_cons (vs_while own_of (vt_cmp ov_gt (vpv 1) ve_int (nomark _)) (vss_one (vs_of (ps_par (i := 0) (j := 1) rfl sc_common_factor.nd rfl rfl (by decide) rfl rfl (va_cons (vpv 1) (va_cons (ve_op ov_mod (vpv 0) (vpv 1)) va_nil)) rfl) fun _ _ _ h => par_in h)))
      (vss_one (vs_ret (vpv 0)))), fun ts n Q hl h => ?_⟩
  match ts, h with
  | [.int a, .int b], ⟨b0, ab, h⟩ =>
    walk_at "w"
    refine ⟨fun k n' ρ => ∃ x y : Int, n' = n ∧ k = y.toNat ∧ 0 ≤ y ∧ (0 < y ∨ 0 ≤ x) ∧ Int.gcd x y = Int.gcd a b ∧ ρ = [.v (.int x), .v (.int y)], ⟨_, a, b, rfl, rfl, b0, ab, rfl, rfl⟩, ?_⟩
    rintro k n' ρ ⟨x, y, rfl, rfl, y0, xy, g, rfl⟩
    walk_at "v"
    by_cases p : 0 < y
    · rw [if_pos (decide_eq_true p)]
      walk_at "w"
      have m0 := Int.emod_nonneg x (Int.ne_of_gt p)
      have m1 := Int.emod_lt_of_pos x p
      exact ⟨_, (by omega), y, x % y, rfl, rfl, m0, .inr y0, by rw [gcd_step p, g], rfl⟩
    · have : y = 0 := by omega
      subst this
      rw [if_neg (by simp)]
      walk_at "w"
      rw [← g, Int.gcd_zero_right] at h
      rw [show x = ((x.natAbs : Nat) : Int) by omega]
      exact h
theorem ok_is_step (T : Tx w K mg) : FnOk PR w K mg base (L2.CX PR w) 2 T.f_is_step T.fd_is_step ["value"] (lSp (gK T) 1 (sp_is_step T)) := by
  refine ok_v (fun _ l b => T.F_is_step.okX sc_is_step l b) rfl (fun cdv A outer s H E F0 xq hr => ?_)
  refine ⟨_, (vss_one (vs_ret (ve_and (ve_call (ok_is_integer T) (hr.mono (by decide)) (by rfl) T.g_is_integer T.F_is_integer.kp T.b_is_integer .nil (fun _ => .nil) hx_of (va_cons (vpv 0) va_nil)) (ve_one (ve_cmp ov_neS (vpv 0) ve_int (nomark _)))))), fun ts n Q hl h => ?_⟩
  match ts, h with
  | [t], ⟨b, hb, h⟩ =>
    cases t with
    | int i =>
      cases hb
      walk_at "w"
      refine ⟨_, rfl, ?_⟩
      walk_at "w"
      exact h
    | _ => first | (cases hb; done) | (cases hb; walk_at "w"; refine ⟨_, rfl, ?_⟩; walk_at "w"; exact h)
theorem ok_need_deal (T : Tx w K mg) : FnOk PR w K mg base (L2.CX PR w) 4 T.f_need_deal T.fd_need_deal ["deal"] (lSp (gK T) 1 (sp_need_deal T)) := by
  refine ok_v (fun _ l b => T.F_need_deal.okX sc_need_deal l b) rfl (fun cdv A outer s H E F0 xq hr => ?_)
  refine ⟨_, (vss_one (vs_if (vt_not (vt_val (ve_callB (cv_isC rfl T.ic_Deal) (by rfl) T.z_isinstance (by decide +kernel) (va_cons (vpv 0) (va_cons (ve_opq (pe_glob (v := .ref T.C_Deal) (by rfl) T.gC_Deal rfl)) va_nil))))) (vss_one (vs_raise1 (C := T.C_BadValue) (f := "value") (ps_raise rfl (takes_of rfl rfl rfl rfl) (pmk_oex T.X_BadValue.oex T.X_BadValue.iC T.X_BadValue.tI (okX_BadValue T) (hr.mono (by decide)) T.bX_BadValue .nil pass0 rfl T.gC_BadValue (pa_cons (vpv 0) pa_nil))))) vss_nil)), fun ts n Q hl h => ?_⟩
  match ts, h with
  | [t], ⟨hc, h⟩ =>
    cases t with
    | ins C fs =>
      obtain rfl := hc C fs rfl
      walk_at "w"
      (try (show brS false _ _ _ _ _; walk_at "w"))
      exact h
    | _ => first | exact h.elim | (walk_at "w"; (try (show brS true _ _ _ _ _; walk_at "w")); exact h)
theorem ok_Deal___init__ (T : Tx w K mg) : FnOk PR w K mg base (L2.CX PR w) 5 T.f_Deal___init__ T.fd_Deal___init__ ["self", "block", "houses", "shift"] (lIp (gK T) T.C_Deal 3 (sp_Deal___init__ T)) := by
  refine ok_vi (fun _ l b => T.F_Deal___init__.ok sc_Deal___init__ l b) rfl (by decide) (fun cdv A outer s H0 H E F0 xq hr => ?_)
  refine ⟨_, (vss_cons (vs_expr (ve_call (ok_need_positive T) (hr.mono (by decide)) (by rfl) T.g_need_positive T.F_need_positive.kp T.b_need_positive .nil (fun _ => .nil) hx_of (va_cons (vpv 1) va_nil)))
      (vss_cons (vs_expr (ve_call (ok_need_positive T) (hr.mono (by decide)) (by rfl) T.g_need_positive T.F_need_positive.kp T.b_need_positive .nil (fun _ => .nil) hx_of (va_cons (vpv 2) va_nil)))
      (vss_cons (vs_expr (ve_call (ok_need_integer T) (hr.mono (by decide)) (by rfl) T.g_need_integer T.F_need_integer.kp T.b_need_integer .nil (fun _ => .nil) hx_of (va_cons (vpv 3) va_nil)))
      (vss_cons (vs_fldS (C := T.C_Deal) (i := 0) rfl T.n_Deal_houses (ps_fld (pv 0) (vpv 2) rfl))
      (vss_cons (vs_fldS (C := T.C_Deal) (i := 0) rfl T.n_Deal_block (ps_fld (pv 0) (ve_ifExp (vt_cmp ov_gt (vpv 2) ve_int (nomark _)) (vpv 1) ve_int) rfl))
      (vss_one (vs_fldS (C := T.C_Deal) (i := 0) rfl T.n_Deal_shift (ps_fld (pv 0) (ve_op ov_mod (vpv 3) (ve_op ov_mul (ve_fldO (C := T.C_Deal) (i := 0) rfl T.n_Deal_block rfl (.inl rfl) rfl) (vpv 2))) rfl)))))))), fun ts n Q y dy hl h => ?_⟩
  match ts, h with
  | [.int b, .int k, .int s], ⟨b0, h0, bB, hB, h⟩ =>
    have p1 : isPosT (.int b) = some true := congrArg some (decide_eq_true b0)
    have p2 : isPosT (.int k) = some true := congrArg some (decide_eq_true h0)
    walk_at "w"
    rw [p1]
    walk_at "w"
    rw [p2]
    walk_at "w"
    refine brE_d (fun q => ?_) (fun q => ?_)
    · have e : nb b k = b := if_pos q
      rw [e] at h
      have pp := Int.mul_pos b0 h0
      walk_at "w"
      exact h
    · have e : nb b k = 1 := if_neg q
      rw [e] at h
      walk_at "w"
      exact h
end
end K27
namespace K27
open PySem L2 DS VL MT NdefX
set_option pp.maxSteps 2000
local macro_rules | `(tactic| walk_at "v") => `(tactic| try dsimp only [vNext, vSeq, vBreak, vCont, vDrop, vRet, vRetN, vIfS, vSet, vFrz, frz, frzS, vSetOL, gNm, VL.gNil, VL.gCons, gTupN, vAsg, parQ, vPar, par3Q, vPar3, vFor, iLst, lstQ, VL.iTup, tupQ, VL.iRng1, rng1Q, VL.iRng2, rng2Q, vVar, vv, gt, vC, vOp, vUn, vI, vI0, vU, vEqS, isNonT, isNQ, vIsN, vbl, vIf, vAndV, vOrV, vNotV, vChain, vTest, vNot, vYes, vNo, vAnd, vOr, vNil, vCons, vTup, vLst, lkQ, fldC, vFldC, fldO, vFldO, vCall, methQ, vMeth, vMake, vBinII, vBinIZ, vNegOwn, vEqII, ends, endsI, oiQ, startT, startI, vCB, cInt, cAbs, c2I, cDivmod, cLen, cList, cTuple, cSum, cAll, cAny, cSorted, ixL, ixT, ixQ, oNone, oiQ2, oSome, slQ, vSlL, vCat, truT, truQ, vTru, augQ, augS, vAug, isBt, isQ, cIsB, isCQ, cIsC, isSeq, vIsSeq, vEqD, inSQ, vIn, appQ, vApp, setK, setQ, vSetI, popK, popQ, vPop, olQ, vLenO, vIxO, vTruO, fsQ, vFldS, putT, self2P, self2Q, vSelf2, vLc, wipeT, vNever, revQ, vRev, vParO, vRaise1, toldQ, vToldA, hide, hideS, vParO2, gSeqN, seqV, iSeqV, vLtT, ixoQ, vIndex, defQ, vCallL2, ixS, vToldM, ite_tt, ite_ft, List.set, List.map, List.length, List.append, List.replicate, List.drop, List.nil_append, List.cons_append, List.append_nil, Nat.sub_self, Nat.reduceSub, List.replicate_zero, List.replicate_succ, Nat.reduceAdd, Bool.not_true, Bool.not_false, brE_true, brE_false, brT_true, brT_false, brS_true, brS_false, Bt.nm, vdraw, vpick, vten, vbegin, sp_is_integer, sp_is_whole, sp_need_integer, sp_need_positive, sp_need_step, sp_need_items, sp_is_step, dealT, sp_common_factor, sp_Deal___init__, sp_need_deal, sp_met, sp_need_wants, sp_cost_at, sp_tried_shifts, sp_shift_cost, sp_best_shift, sp_free_shifts, fl_Deal_houses, pt_Deal_houses, fl_Deal_block, pt_Deal_block, fq_Deal_1_0, fl_Deal_shift, pt_Deal_shift, fq_Deal_2_0, fq_Deal_2_1])
local macro_rules | `(tactic| walk_at "b") => `(tactic| first
  | with_reducible assumption
  | exact B.lit (k := 70) (by decide)
  | exact B.add (by walk_at "b") (by walk_at "b")
  | exact B.sub (by walk_at "b") (by walk_at "b")
  | exact B.neg (by walk_at "b")
  | exact B.mul (by walk_at "b") (by walk_at "b")
  | exact B.div (by walk_at "b")
  | exact B.mod (by walk_at "b") (by omega)
  | exact B.ite (by walk_at "b") (by walk_at "b")
  | exact B.ten _)
local macro_rules | `(tactic| walk_at "bb") => `(tactic| (with_reducible show B _ _; exact B.mono (by walk_at "b") (by first | decide | omega)))
local macro_rules | `(tactic| walk_at "sc") => `(tactic| first
  | with_reducible assumption
  | (with_reducible show (_ : Int) < 2 ^ 200; first | assumption | exact lt200 (by omega))
  | rfl
  | (show CMulA _ _; first | exact CMulA.s1 (by omega) (by omega) | exact CMulA.s2 (by omega) (by omega) | exact cmula (by walk_at "b") (by walk_at "b") (by first | decide | omega))
  | (show CDivW _ _; exact cdivw (by omega) (by walk_at "b") (by first | decide | omega))
  | (show CPow _ _; exact ⟨by decide, by decide, by decide⟩)
  | walk_at "bb"
  | omega
  | exact Nat.le_of_ble_eq_true rfl)
local macro_rules | `(tactic| walk_at "w") => `(tactic| (walk_at "v"; repeat ((first | refine And.intro (by walk_at "sc") ?_ | (with_reducible show Exists fun t => And (atI _ _ = some t) _; refine Exists.intro _ (And.intro rfl ?_))); walk_at "v")))

section
variable {P : Program} {w : World} {K : PySem.W.Frag} {mg : Str → Option Value} {base : Heap}
theorem ok_met (T : Tx w K mg) : FnOk PR w K mg base (L2.CX PR w) 1 T.f_met T.fd_met ["one", "other", "whole"] (lSp (gK T) 3 (sp_met T)) := by
  refine ok_v (fun _ l b => T.F_met.okX sc_met l b) rfl (fun cdv A outer s H E F0 xq hr => ?_)
  refine ⟨_, (vss_cons (vs_set (i := 3) sc_met.nd rfl (Or.inl rfl) (ve_op ov_mod (ve_op ov_sub (ve_ix (iv_tup rfl) (vpv 1) ve_int (fun _ _ => rfl)) (ve_ix (iv_tup rfl) (vpv 0) ve_int (fun _ _ => rfl))) (vpv 2)))
      (vss_cons (vs_if (vt_cmp ov_lt (vpv 3) (ve_ix (iv_tup rfl) (vpv 0) ve_int (fun _ _ => rfl)) (nomark _)) (vss_one (vs_ret (ve_tup (va_cons (ve_ix (iv_tup rfl) (vpv 1) ve_int (fun _ _ => rfl)) (va_cons (ve_callB (cv_min2 rfl) (by rfl) T.z_min (by decide +kernel) (va_cons (ve_op ov_sub (ve_ix (iv_tup rfl) (vpv 0) ve_int (fun _ _ => rfl)) (vpv 3)) (va_cons (ve_ix (iv_tup rfl) (vpv 1) ve_int (fun _ _ => rfl)) va_nil))) va_nil))))) vss_nil)
      (vss_cons (vs_set (i := 4) sc_met.nd rfl (Or.inl rfl) (ve_op ov_sub (ve_op ov_add (vpv 3) (ve_ix (iv_tup rfl) (vpv 1) ve_int (fun _ _ => rfl))) (vpv 2)))
      (vss_one (vs_ret (ve_ifExp (vt_cmp ov_gt (vpv 4) ve_int (nomark _)) (ve_tup (va_cons (ve_ix (iv_tup rfl) (vpv 0) ve_int (fun _ _ => rfl)) (va_cons (ve_callB (cv_min2 rfl) (by rfl) T.z_min (by decide +kernel) (va_cons (vpv 4) (va_cons (ve_ix (iv_tup rfl) (vpv 0) ve_int (fun _ _ => rfl)) va_nil))) va_nil))) ve_non)))))), fun ts n Q hl h => ?_⟩
  match ts, h with
  | [.tup [.int f1, .int n1], .tup [.int f2, .int n2], .int W], ⟨w0, h⟩ =>
    walk_at "w"
    refine brS_d (fun c => ?_) (fun c => ?_)
    · walk_at "w"
      exact h _ (by unfold met; rw [if_pos c])
    · walk_at "w"
      refine brE_d (fun d => ?_) (fun d => ?_)
      · walk_at "w"
        exact h _ (by unfold met; rw [if_neg c, if_pos d])
      · walk_at "w"
        exact h _ (by unfold met; rw [if_neg c, if_neg d])
end
end K27
namespace K27
open PySem L2 DS VL MT NdefX
set_option pp.maxSteps 2000
local macro_rules | `(tactic| walk_at "v") => `(tactic| try dsimp only [vNext, vSeq, vBreak, vCont, vDrop, vRet, vRetN, vIfS, vSet, vFrz, frz, frzS, vSetOL, gNm, VL.gNil, VL.gCons, gTupN, vAsg, parQ, vPar, par3Q, vPar3, vFor, iLst, lstQ, VL.iTup, tupQ, VL.iRng1, rng1Q, VL.iRng2, rng2Q, vVar, vv, gt, vC, vOp, vUn, vI, vI0, vU, vEqS, isNonT, isNQ, vIsN, vbl, vIf, vAndV, vOrV, vNotV, vChain, vTest, vNot, vYes, vNo, vAnd, vOr, vNil, vCons, vTup, vLst, lkQ, fldC, vFldC, fldO, vFldO, vCall, methQ, vMeth, vMake, vBinII, vBinIZ, vNegOwn, vEqII, ends, endsI, oiQ, startT, startI, vCB, cInt, cAbs, c2I, cDivmod, cLen, cList, cTuple, cSum, cAll, cAny, cSorted, ixL, ixT, ixQ, oNone, oiQ2, oSome, slQ, vSlL, vCat, truT, truQ, vTru, augQ, augS, vAug, isBt, isQ, cIsB, isCQ, cIsC, isSeq, vIsSeq, vEqD, inSQ, vIn, appQ, vApp, setK, setQ, vSetI, popK, popQ, vPop, olQ, vLenO, vIxO, vTruO, fsQ, vFldS, putT, self2P, self2Q, vSelf2, vLc, wipeT, vNever, revQ, vRev, vParO, vRaise1, toldQ, vToldA, hide, hideS, vParO2, gSeqN, seqV, iSeqV, vLtT, ixoQ, vIndex, defQ, vCallL2, ixS, vToldM, ite_tt, ite_ft, List.set, List.map, List.length, List.append, List.replicate, List.drop, List.nil_append, List.cons_append, List.append_nil, Nat.sub_self, Nat.reduceSub, List.replicate_zero, List.replicate_succ, Nat.reduceAdd, Bool.not_true, Bool.not_false, brE_true, brE_false, brT_true, brT_false, brS_true, brS_false, Bt.nm, vdraw, vpick, vten, vbegin, sp_is_integer, sp_is_whole, sp_need_integer, sp_need_positive, sp_need_step, sp_need_items, sp_is_step, dealT, sp_common_factor, sp_Deal___init__, sp_need_deal, sp_met, sp_need_wants, sp_cost_at, sp_tried_shifts, sp_shift_cost, sp_best_shift, sp_free_shifts, fl_Deal_houses, pt_Deal_houses, fl_Deal_block, pt_Deal_block, fq_Deal_1_0, fl_Deal_shift, pt_Deal_shift, fq_Deal_2_0, fq_Deal_2_1])
local macro_rules | `(tactic| walk_at "b") => `(tactic| first
  | with_reducible assumption
  | exact B.lit (k := 70) (by decide)
  | exact B.add (by walk_at "b") (by walk_at "b")
  | exact B.sub (by walk_at "b") (by walk_at "b")
  | exact B.neg (by walk_at "b")
  | exact B.mul (by walk_at "b") (by walk_at "b")
  | exact B.div (by walk_at "b")
  | exact B.mod (by walk_at "b") (by omega)
  | exact B.ite (by walk_at "b") (by walk_at "b")
  | exact B.ten _)
local macro_rules | `(tactic| walk_at "bb") => `(tactic| (with_reducible show B _ _; exact B.mono (by walk_at "b") (by first | decide | omega)))
local macro_rules | `(tactic| walk_at "sc") => `(tactic| first
  | with_reducible assumption
  | (with_reducible show (_ : Int) < 2 ^ 200; first | assumption | exact lt200 (by omega))
  | rfl
  | (show CMulA _ _; first | exact CMulA.s1 (by omega) (by omega) | exact CMulA.s2 (by omega) (by omega) | exact cmula (by walk_at "b") (by walk_at "b") (by first | decide | omega))
  | (show CDivW _ _; exact cdivw (by omega) (by walk_at "b") (by first | decide | omega))
  | (show CPow _ _; exact ⟨by decide, by decide, by decide⟩)
  | walk_at "bb"
  | omega
  | exact Nat.le_of_ble_eq_true rfl)
local macro_rules | `(tactic| walk_at "w") => `(tactic| (walk_at "v"; repeat ((first | refine And.intro (by walk_at "sc") ?_ | (with_reducible show Exists fun t => And (atI _ _ = some t) _; refine Exists.intro _ (And.intro rfl ?_))); walk_at "v")))

section
variable {P : Program} {w : World} {K : PySem.W.Frag} {mg : Str → Option Value} {base : Heap}
theorem ok_need_wants (T : Tx w K mg) : FnOk PR w K mg base (L2.CX PR w) 5 T.f_need_wants T.fd_need_wants ["wants", "is_last"] (lSp (gK T) 2 (sp_need_wants T)) := by
  refine ok_v (fun _ l b => T.F_need_wants.okX sc_need_wants l b) rfl (fun cdv A outer s H E F0 xq hr => ?_)
  refine ⟨_, (vss_cons (vs_expr (ve_call (ok_need_items T) (hr.mono (by decide)) (by rfl) T.g_need_items T.F_need_items.kp T.b_need_items .nil (fun _ => .nil) hx_of (va_cons (vpv 0) va_nil)))
      (vss_cons (vs_for (vs := [2]) own_of rfl (vi_seqV (i := 0) rfl (vpv 0)) (vg_name (i := 2) (by decide) sc_need_wants.nd rfl (Or.inl rfl))
      (vss_cons (vs_if (PW.pt (vw_or (vt_not (vt_val (ve_isSeq rfl (pe_callB call_isiT (by rfl) T.z_isinstance (by decide +kernel) (pa_cons (vpv 2) (pa_cons (pe_tup (pa_cons (pe_bltn (v := .ty "list") (by rfl) T.z_list (by decide +kernel) rfl) (pa_cons (pe_bltn (v := .ty "tuple") (by rfl) T.z_tuple (by decide +kernel) rfl) pa_nil))) pa_nil)))))) (vw_or1 (vt_cmp ov_neS (ve_callB (cv_len rfl) (by rfl) T.z_len PySem.boot_len (va_cons (vpv 2) va_nil)) ve_int (nomark _))))) (vss_one (vs_raise1 (C := T.C_BadValue) (f := "value") (ps_raise rfl (takes_of rfl rfl rfl rfl) (pmk_oex T.X_BadValue.oex T.X_BadValue.iC T.X_BadValue.tI (okX_BadValue T) (hr.mono (by decide)) T.bX_BadValue .nil pass0 rfl T.gC_BadValue (pa_cons (vpv 2) pa_nil))))) vss_nil)
      (vss_one (vs_if (PW.pt (vw_or (vt_not (vt_val (ve_call (ok_is_integer T) (hr.mono (by decide)) (by rfl) T.g_is_integer T.F_is_integer.kp T.b_is_integer .nil (fun _ => .nil) hx_of (va_cons (ve_ix (iv_seq rfl) (vpv 2) ve_int (fun _ _ => rfl)) va_nil)))) (vw_or (vt_not (vt_val (ve_call (ok_is_integer T) (hr.mono (by decide)) (by rfl) T.g_is_integer T.F_is_integer.kp T.b_is_integer .nil (fun _ => .nil) hx_of (va_cons (ve_ix (iv_seq rfl) (vpv 2) ve_int (fun _ _ => rfl)) va_nil)))) (vw_or1 (vt_not (vt_tru rfl (ve_callL2 (pe_callL (i := 1) (ok_is_step T) (hr.mono (by decide)) rfl (.inl rfl) T.F_is_step.kp T.b_is_step .nil hx_of (va_cons (ve_ix (iv_seq rfl) (vpv 2) ve_int (fun _ _ => rfl)) va_nil)) (pe_callL (i := 1) (ok_is_whole T) (hr.mono (by decide)) rfl (.inl rfl) T.F_is_whole.kp T.b_is_whole .nil hx_of (va_cons (ve_ix (iv_seq rfl) (vpv 2) ve_int (fun _ _ => rfl)) va_nil))))))))) (vss_one (vs_raise1 (C := T.C_BadValue) (f := "value") (ps_raise rfl (takes_of rfl rfl rfl rfl) (pmk_oex T.X_BadValue.oex T.X_BadValue.iC T.X_BadValue.tI (okX_BadValue T) (hr.mono (by decide)) T.bX_BadValue .nil pass0 rfl T.gC_BadValue (pa_cons (vpv 2) pa_nil))))) vss_nil))))
      (vss_one (vs_if (vt_cmp ov_eqS (ve_callB (cv_len rfl) (by rfl) T.z_len PySem.boot_len (va_cons (vpv 0) va_nil)) ve_int (nomark _)) (vss_one (vs_raise1 (C := T.C_BadValue) (f := "value") (ps_raise rfl (takes_of rfl rfl rfl rfl) (pmk_oex T.X_BadValue.oex T.X_BadValue.iC T.X_BadValue.tI (okX_BadValue T) (hr.mono (by decide)) T.bX_BadValue .nil pass0 rfl T.gC_BadValue (pa_cons (vpv 0) pa_nil))))) vss_nil)))), fun ts n Q hl h => ?_⟩
  match ts, h with
  | [t, f], ⟨p, hp, h⟩ =>
    walk_at "w"
    cases t with
    | lst us =>
      have h := h us (.inl rfl)
      refine for_pred (fun us' n' ρ => n' = n ∧ ∃ s2, ρ = [.v (.lst us), .v f, s2] ∧ wantsQ p (okQ (some (decide (us ≠ []))) (Q .non n) (xq T.C_BadValue [("value", .lst us)] n)) (fun u => xq T.C_BadValue [("value", u)] n) us') ?_ ?_ ⟨rfl, _, rfl, h⟩
      · rintro u us' n' ρ ⟨rfl, s2, rfl, h⟩ K1 hK
        have h : okQ (wantB p u) _ _ := h
        cases u with
        | lst vs =>
          walk_at "w"
          show brT false _ _ _ _ _
          walk_at "w"
          by_cases e : vs.length = 3
          · obtain ⟨a, b, c, rfl⟩ : ∃ a b c, vs = [a, b, c] := by
              match vs, e with
              | [a, b, c], _ => exact ⟨a, b, c, rfl⟩
            have h : okQ (wantB3 p a b c) _ _ := h
            walk_at "w"
            refine brS_n (fun z => absurd rfl z) (fun _ => ?_)
            walk_at "w"
            unfold wantB3 at h
            cases ea : isIntT a with
            | none => rw [ea] at h; exact h.elim
            | some x =>
              refine ⟨x, rfl, ?_⟩
              rw [ea] at h
              cases x with
              | false => walk_at "w"; (try (show brT true _ _ _ _ _; walk_at "w")); exact h
              | true =>
                walk_at "w"; (try (show brT false _ _ _ _ _; walk_at "w"))
                cases eb : isIntT b with
                | none => rw [eb] at h; exact h.elim
                | some x =>
                  refine ⟨x, rfl, ?_⟩
                  rw [eb] at h
                  cases x with
                  | false => walk_at "w"; (try (show brT true _ _ _ _ _; walk_at "w")); exact h
                  | true =>
                    walk_at "w"; (try (show brT false _ _ _ _ _; walk_at "w"))
                    have h : okQ (p c) _ _ := h
                    cases ec : p c with
                    | none => rw [ec] at h; exact h.elim
                    | some x =>
                      rw [ec] at h
                      rcases hp with ⟨rfl, rfl⟩ | ⟨rfl, rfl⟩
                      · refine .inl ⟨rfl, ?_⟩
                        walk_at "w"
                        refine ⟨x, ec, ?_⟩
                        walk_at "w"
                        cases x with
                        | true => (try (show brS false _ _ _ _ _; walk_at "w")); exact hK _ _ ⟨rfl, _, rfl, h⟩
                        | false => (try (show brS true _ _ _ _ _; walk_at "w")); exact h
                      · refine .inr ⟨rfl, ?_⟩
                        walk_at "w"
                        refine ⟨x, ec, ?_⟩
                        walk_at "w"
                        cases x with
                        | true => (try (show brS false _ _ _ _ _; walk_at "w")); exact hK _ _ ⟨rfl, _, rfl, h⟩
                        | false => (try (show brS true _ _ _ _ _; walk_at "w")); exact h
          · have h' : wantL p vs = some false := by
              match vs, e with
              | [], _ => rfl
              | [_], _ => rfl
              | [_, _], _ => rfl
              | [_, _, _], e => exact absurd rfl e
              | _ :: _ :: _ :: _ :: _, _ => rfl
            have h : okQ (wantL p vs) _ _ := h
            rw [h'] at h
            refine brS_n (fun _ => ?_) (fun z => absurd (Int.ofNat_inj.mp z) e)
            walk_at "w"
            exact h
        | tup vs =>
          walk_at "w"
          show brT false _ _ _ _ _
          walk_at "w"
          by_cases e : vs.length = 3
          · obtain ⟨a, b, c, rfl⟩ : ∃ a b c, vs = [a, b, c] := by
              match vs, e with
              | [a, b, c], _ => exact ⟨a, b, c, rfl⟩
            have h : okQ (wantB3 p a b c) _ _ := h
            walk_at "w"
            refine brS_n (fun z => absurd rfl z) (fun _ => ?_)
            walk_at "w"
            unfold wantB3 at h
            cases ea : isIntT a with
            | none => rw [ea] at h; exact h.elim
            | some x =>
              refine ⟨x, rfl, ?_⟩
              rw [ea] at h
              cases x with
              | false => walk_at "w"; (try (show brT true _ _ _ _ _; walk_at "w")); exact h
              | true =>
                walk_at "w"; (try (show brT false _ _ _ _ _; walk_at "w"))
                cases eb : isIntT b with
                | none => rw [eb] at h; exact h.elim
                | some x =>
                  refine ⟨x, rfl, ?_⟩
                  rw [eb] at h
                  cases x with
                  | false => walk_at "w"; (try (show brT true _ _ _ _ _; walk_at "w")); exact h
                  | true =>
                    walk_at "w"; (try (show brT false _ _ _ _ _; walk_at "w"))
                    have h : okQ (p c) _ _ := h
                    cases ec : p c with
                    | none => rw [ec] at h; exact h.elim
                    | some x =>
                      rw [ec] at h
                      rcases hp with ⟨rfl, rfl⟩ | ⟨rfl, rfl⟩
                      · refine .inl ⟨rfl, ?_⟩
                        walk_at "w"
                        refine ⟨x, ec, ?_⟩
                        walk_at "w"
                        cases x with
                        | true => (try (show brS false _ _ _ _ _; walk_at "w")); exact hK _ _ ⟨rfl, _, rfl, h⟩
                        | false => (try (show brS true _ _ _ _ _; walk_at "w")); exact h
                      · refine .inr ⟨rfl, ?_⟩
                        walk_at "w"
                        refine ⟨x, ec, ?_⟩
                        walk_at "w"
                        cases x with
                        | true => (try (show brS false _ _ _ _ _; walk_at "w")); exact hK _ _ ⟨rfl, _, rfl, h⟩
                        | false => (try (show brS true _ _ _ _ _; walk_at "w")); exact h
          · have h' : wantL p vs = some false := by
              match vs, e with
              | [], _ => rfl
              | [_], _ => rfl
              | [_, _], _ => rfl
              | [_, _, _], e => exact absurd rfl e
              | _ :: _ :: _ :: _ :: _, _ => rfl
            have h : okQ (wantL p vs) _ _ := h
            rw [h'] at h
            refine brS_n (fun _ => ?_) (fun z => absurd (Int.ofNat_inj.mp z) e)
            walk_at "w"
            exact h
        | _ => first | exact h.elim | (walk_at "w"; try (show brT true _ _ _ _ _; walk_at "w"); exact h)
      · rintro n' ρ ⟨rfl, s2, rfl, h⟩
        walk_at "w"
        have h : okQ (some (decide (us ≠ []))) _ _ := h
        cases us with
        | nil => exact h
        | cons a us =>
          refine brS_d (fun z => absurd (Int.ofNat_inj.mp z) (by simp)) (fun _ => ?_)
          exact h
    | tup us =>
      have h := h us (.inr rfl)
      refine for_pred (fun us' n' ρ => n' = n ∧ ∃ s2, ρ = [.v (.tup us), .v f, s2] ∧ wantsQ p (okQ (some (decide (us ≠ []))) (Q .non n) (xq T.C_BadValue [("value", .tup us)] n)) (fun u => xq T.C_BadValue [("value", u)] n) us') ?_ ?_ ⟨rfl, _, rfl, h⟩
      · rintro u us' n' ρ ⟨rfl, s2, rfl, h⟩ K1 hK
        have h : okQ (wantB p u) _ _ := h
        cases u with
        | lst vs =>
          walk_at "w"
          show brT false _ _ _ _ _
          walk_at "w"
          by_cases e : vs.length = 3
          · obtain ⟨a, b, c, rfl⟩ : ∃ a b c, vs = [a, b, c] := by
              match vs, e with
              | [a, b, c], _ => exact ⟨a, b, c, rfl⟩
            have h : okQ (wantB3 p a b c) _ _ := h
            walk_at "w"
            refine brS_n (fun z => absurd rfl z) (fun _ => ?_)
            walk_at "w"
            unfold wantB3 at h
            cases ea : isIntT a with
            | none => rw [ea] at h; exact h.elim
            | some x =>
              refine ⟨x, rfl, ?_⟩
              rw [ea] at h
              cases x with
              | false => walk_at "w"; (try (show brT true _ _ _ _ _; walk_at "w")); exact h
              | true =>
                walk_at "w"; (try (show brT false _ _ _ _ _; walk_at "w"))
                cases eb : isIntT b with
                | none => rw [eb] at h; exact h.elim
                | some x =>
                  refine ⟨x, rfl, ?_⟩
                  rw [eb] at h
                  cases x with
                  | false => walk_at "w"; (try (show brT true _ _ _ _ _; walk_at "w")); exact h
                  | true =>
                    walk_at "w"; (try (show brT false _ _ _ _ _; walk_at "w"))
                    have h : okQ (p c) _ _ := h
                    cases ec : p c with
                    | none => rw [ec] at h; exact h.elim
                    | some x =>
                      rw [ec] at h
                      rcases hp with ⟨rfl, rfl⟩ | ⟨rfl, rfl⟩
                      · refine .inl ⟨rfl, ?_⟩
                        walk_at "w"
                        refine ⟨x, ec, ?_⟩
                        walk_at "w"
                        cases x with
                        | true => (try (show brS false _ _ _ _ _; walk_at "w")); exact hK _ _ ⟨rfl, _, rfl, h⟩
                        | false => (try (show brS true _ _ _ _ _; walk_at "w")); exact h
                      · refine .inr ⟨rfl, ?_⟩
                        walk_at "w"
                        refine ⟨x, ec, ?_⟩
                        walk_at "w"
                        cases x with
                        | true => (try (show brS false _ _ _ _ _; walk_at "w")); exact hK _ _ ⟨rfl, _, rfl, h⟩
                        | false => (try (show brS true _ _ _ _ _; walk_at "w")); exact h
          · have h' : wantL p vs = some false := by
              match vs, e with
              | [], _ => rfl
              | [_], _ => rfl
              | [_, _], _ => rfl
              | [_, _, _], e => exact absurd rfl e
              | _ :: _ :: _ :: _ :: _, _ => rfl
            have h : okQ (wantL p vs) _ _ := h
            rw [h'] at h
            refine brS_n (fun _ => ?_) (fun z => absurd (Int.ofNat_inj.mp z) e)
            walk_at "w"
            exact h
        | tup vs =>
          walk_at "w"
          show brT false _ _ _ _ _
          walk_at "w"
          by_cases e : vs.length = 3
          · obtain ⟨a, b, c, rfl⟩ : ∃ a b c, vs = [a, b, c] := by
              match vs, e with
              | [a, b, c], _ => exact ⟨a, b, c, rfl⟩
            have h : okQ (wantB3 p a b c) _ _ := h
            walk_at "w"
            refine brS_n (fun z => absurd rfl z) (fun _ => ?_)
            walk_at "w"
            unfold wantB3 at h
            cases ea : isIntT a with
            | none => rw [ea] at h; exact h.elim
            | some x =>
              refine ⟨x, rfl, ?_⟩
              rw [ea] at h
              cases x with
              | false => walk_at "w"; (try (show brT true _ _ _ _ _; walk_at "w")); exact h
              | true =>
                walk_at "w"; (try (show brT false _ _ _ _ _; walk_at "w"))
                cases eb : isIntT b with
                | none => rw [eb] at h; exact h.elim
                | some x =>
                  refine ⟨x, rfl, ?_⟩
                  rw [eb] at h
                  cases x with
                  | false => walk_at "w"; (try (show brT true _ _ _ _ _; walk_at "w")); exact h
                  | true =>
                    walk_at "w"; (try (show brT false _ _ _ _ _; walk_at "w"))
                    have h : okQ (p c) _ _ := h
                    cases ec : p c with
                    | none => rw [ec] at h; exact h.elim
                    | some x =>
                      rw [ec] at h
                      rcases hp with ⟨rfl, rfl⟩ | ⟨rfl, rfl⟩
                      · refine .inl ⟨rfl, ?_⟩
                        walk_at "w"
                        refine ⟨x, ec, ?_⟩
                        walk_at "w"
                        cases x with
                        | true => (try (show brS false _ _ _ _ _; walk_at "w")); exact hK _ _ ⟨rfl, _, rfl, h⟩
                        | false => (try (show brS true _ _ _ _ _; walk_at "w")); exact h
                      · refine .inr ⟨rfl, ?_⟩
                        walk_at "w"
                        refine ⟨x, ec, ?_⟩
                        walk_at "w"
                        cases x with
                        | true => (try (show brS false _ _ _ _ _; walk_at "w")); exact hK _ _ ⟨rfl, _, rfl, h⟩
                        | false => (try (show brS true _ _ _ _ _; walk_at "w")); exact h
          · have h' : wantL p vs = some false := by
              match vs, e with
              | [], _ => rfl
              | [_], _ => rfl
              | [_, _], _ => rfl
              | [_, _, _], e => exact absurd rfl e
              | _ :: _ :: _ :: _ :: _, _ => rfl
            have h : okQ (wantL p vs) _ _ := h
            rw [h'] at h
            refine brS_n (fun _ => ?_) (fun z => absurd (Int.ofNat_inj.mp z) e)
            walk_at "w"
            exact h
        | _ => first | exact h.elim | (walk_at "w"; try (show brT true _ _ _ _ _; walk_at "w"); exact h)
      · rintro n' ρ ⟨rfl, s2, rfl, h⟩
        walk_at "w"
        have h : okQ (some (decide (us ≠ []))) _ _ := h
        cases us with
        | nil => exact h
        | cons a us =>
          refine brS_d (fun z => absurd (Int.ofNat_inj.mp z) (by simp)) (fun _ => ?_)
          exact h
    | _ => first | exact h.elim | (try (walk_at "w"); exact h)
end
end K27
namespace K27
open PySem L2 DS VL MT NdefX
set_option pp.maxSteps 2000
local macro_rules | `(tactic| walk_at "v") => `(tactic| try dsimp only [vNext, vSeq, vBreak, vCont, vDrop, vRet, vRetN, vIfS, vSet, vFrz, frz, frzS, vSetOL, gNm, VL.gNil, VL.gCons, gTupN, vAsg, parQ, vPar, par3Q, vPar3, vFor, iLst, lstQ, VL.iTup, tupQ, VL.iRng1, rng1Q, VL.iRng2, rng2Q, vVar, vv, gt, vC, vOp, vUn, vI, vI0, vU, vEqS, isNonT, isNQ, vIsN, vbl, vIf, vAndV, vOrV, vNotV, vChain, vTest, vNot, vYes, vNo, vAnd, vOr, vNil, vCons, vTup, vLst, lkQ, fldC, vFldC, fldO, vFldO, vCall, methQ, vMeth, vMake, vBinII, vBinIZ, vNegOwn, vEqII, ends, endsI, oiQ, startT, startI, vCB, cInt, cAbs, c2I, cDivmod, cLen, cList, cTuple, cSum, cAll, cAny, cSorted, ixL, ixT, ixQ, oNone, oiQ2, oSome, slQ, vSlL, vCat, truT, truQ, vTru, augQ, augS, vAug, isBt, isQ, cIsB, isCQ, cIsC, isSeq, vIsSeq, vEqD, inSQ, vIn, appQ, vApp, setK, setQ, vSetI, popK, popQ, vPop, olQ, vLenO, vIxO, vTruO, fsQ, vFldS, putT, self2P, self2Q, vSelf2, vLc, wipeT, vNever, revQ, vRev, vParO, vRaise1, toldQ, vToldA, hide, hideS, vParO2, gSeqN, seqV, iSeqV, vLtT, ixoQ, vIndex, defQ, vCallL2, ixS, vToldM, ite_tt, ite_ft, List.set, List.map, List.length, List.append, List.replicate, List.drop, List.nil_append, List.cons_append, List.append_nil, Nat.sub_self, Nat.reduceSub, List.replicate_zero, List.replicate_succ, Nat.reduceAdd, Bool.not_true, Bool.not_false, brE_true, brE_false, brT_true, brT_false, brS_true, brS_false, Bt.nm, vdraw, vpick, vten, vbegin, sp_is_integer, sp_is_whole, sp_need_integer, sp_need_positive, sp_need_step, sp_need_items, sp_is_step, dealT, sp_common_factor, sp_Deal___init__, sp_need_deal, sp_met, sp_need_wants, sp_cost_at, sp_tried_shifts, sp_shift_cost, sp_best_shift, sp_free_shifts, fl_Deal_houses, pt_Deal_houses, fl_Deal_block, pt_Deal_block, fq_Deal_1_0, fl_Deal_shift, pt_Deal_shift, fq_Deal_2_0, fq_Deal_2_1])
local macro_rules | `(tactic| walk_at "b") => `(tactic| first
  | with_reducible assumption
  | exact B.lit (k := 70) (by decide)
  | exact B.add (by walk_at "b") (by walk_at "b")
  | exact B.sub (by walk_at "b") (by walk_at "b")
  | exact B.neg (by walk_at "b")
  | exact B.mul (by walk_at "b") (by walk_at "b")
  | exact B.div (by walk_at "b")
  | exact B.mod (by walk_at "b") (by omega)
  | exact B.ite (by walk_at "b") (by walk_at "b")
  | exact B.ten _)
local macro_rules | `(tactic| walk_at "bb") => `(tactic| (with_reducible show B _ _; exact B.mono (by walk_at "b") (by first | decide | omega)))
local macro_rules | `(tactic| walk_at "sc") => `(tactic| first
  | with_reducible assumption
  | (with_reducible show (_ : Int) < 2 ^ 200; first | assumption | exact lt200 (by omega))
  | rfl
  | (show CMulA _ _; first | exact CMulA.s1 (by omega) (by omega) | exact CMulA.s2 (by omega) (by omega) | exact cmula (by walk_at "b") (by walk_at "b") (by first | decide | omega))
  | (show CDivW _ _; exact cdivw (by omega) (by walk_at "b") (by first | decide | omega))
  | (show CPow _ _; exact ⟨by decide, by decide, by decide⟩)
  | walk_at "bb"
  | omega
  | exact Nat.le_of_ble_eq_true rfl)
local macro_rules | `(tactic| walk_at "w") => `(tactic| (walk_at "v"; repeat ((first | refine And.intro (by walk_at "sc") ?_ | (with_reducible show Exists fun t => And (atI _ _ = some t) _; refine Exists.intro _ (And.intro rfl ?_))); walk_at "v")))

section
variable {P : Program} {w : World} {K : PySem.W.Frag} {mg : Str → Option Value} {base : Heap}
theorem wantsQ_ok {p : Tr → Option Bool} {y : Prop} {z : Tr → Prop} : ∀ {ts : List Tr} {l : List I3}, RL isW1 ts l → (∀ a ∈ l, p (.int a.2.2) = some true) → y → wantsQ p y z ts
  | _, _, .nil, _, hy => hy
  | _, _, .cons (x := a) h r, hp, hy => by
    have := wantsQ_ok (y := y) (z := z) r (fun b m => hp b (List.mem_cons_of_mem _ m)) hy
    have e := hp a (List.mem_cons_self ..)
    rcases h with rfl | rfl
    · show okQ (p _) _ _
      rw [e]
      exact this
    · show okQ (p _) _ _
      rw [e]
      exact this
theorem seq_ne {ts : List Tr} {l : List I3} (r : RL isW1 ts l) (h : l ≠ []) : decide (ts ≠ []) = true := by
  cases r with
  | nil => exact absurd rfl h
  | cons _ _ => simp
theorem seqV_of {t : Tr} {ts : List Tr} {n : Nat} {Q : List Tr → Nat → Prop} (h : seqT t ts) (q : Q ts n) : seqV (.v t) n Q := by
  rcases h with rfl | rfl <;> exact q
theorem gSeq_of {t : Tr} {a : I3} {gs : RGs} {n : Nat} {ρ : List Sl} {Q : Nat → List Sl → Prop} (h : isW1 t a) (q : gs [.int a.1, .int a.2.1, .int a.2.2] n ρ Q) : gSeqN 3 gs t n ρ Q := by
  rcases h with rfl | rfl <;> exact ⟨rfl, q⟩
theorem min_sw (i j : Int) : (if j < i then j else i) = if i < j then i else j := by split <;> split <;> omega
theorem okQ_T {o : Option Bool} {y z : Prop} (e : o = some true) (h : y) : okQ o y z := by rw [e]; exact h
theorem seqT_inj {t : Tr} {us ts : List Tr} (a : seqT t us) (b : seqT t ts) : us = ts := by
  rcases a with rfl | rfl <;> rcases b with b | b <;> cases b <;> rfl
theorem gcd_pos_r (st : Int) {b : Int} (h : 0 < b) : (0 : Int) < (Int.gcd st b : Nat) := by
  have : 0 < Int.gcd st b := Int.gcd_pos_of_ne_zero_right _ (by omega)
  omega
theorem gcd_le_r (st : Int) {b : Int} (h : 0 < b) : ((Int.gcd st b : Nat) : Int) ≤ b := by
  have := Int.le_of_dvd h (Int.gcd_dvd_right (a := st) (b := b))
  exact this
theorem gcd_bb {st b : Int} (h : 0 < b) (bb : B 150 b) : B 150 ((Int.gcd st b : Nat) : Int) := by
  have h1 := gcd_le_r st h
  have h2 := gcd_pos_r st h
  have bb : b.natAbs < 2 ^ 150 := bb
  show Int.natAbs _ < 2 ^ 150
  generalize 2 ^ 150 = z at *
  omega
theorem gcd_ring {st b h : Int} (b0 : 0 < b) (h0 : 0 < h) : 0 < b * h / (Int.gcd st b : Nat) := by
  have h1 := gcd_le_r st b0
  have h2 := gcd_pos_r st b0
  have h3 : b * 1 ≤ b * h := Int.mul_le_mul_of_nonneg_left (by omega) (by omega)
  exact Int.ediv_pos_of_pos_of_dvd (Int.mul_pos b0 h0) (by omega) (Int.dvd_trans (Int.gcd_dvd_right _ _) (Int.dvd_mul_right b h))
theorem ok_cost_at (T : Tx w K mg) : FnOk PR w K mg base (L2.CX PR w) 1 T.f_cost_at T.fd_cost_at ["deal", "part", "wants", "shift"] (lSp (gK T) 4 (sp_cost_at T)) := by
  refine ok_v (fun _ l b => T.F_cost_at.okX sc_cost_at l b) rfl (fun cdv A outer s H E F0 xq hr => ?_)
  refine ⟨_, (vss_cons (vs_of (ps_par (i := 4) (j := 5) rfl sc_cost_at.nd rfl rfl (by decide) rfl rfl (va_cons ve_int (va_cons (ve_op ov_fdiv (ve_op ov_mul (ve_fld (C := T.C_Deal) rfl T.n_Deal_block (vpv 0) rfl) (ve_fld (C := T.C_Deal) rfl T.n_Deal_houses (vpv 0) rfl)) (vpv 1)) va_nil)) rfl) fun _ _ _ h => par_in h)
      (vss_cons (vs_for (vs := [6, 7, 8]) own_of rfl (vi_seqV (i := 2) rfl (vpv 2)) (vg_seq (m := 3) rfl rfl (vgs_cons (vg_name (i := 6) (by decide) sc_cost_at.nd rfl (Or.inl rfl)) (vgs_cons (vg_name (i := 7) (by decide) sc_cost_at.nd rfl (Or.inl rfl)) (vgs_cons (vg_name (i := 8) (by decide) sc_cost_at.nd rfl (Or.inl rfl)) vgs_nil))))
      (vss_cons (vs_set (i := 9) sc_cost_at.nd rfl (Or.inl rfl) (ve_op ov_mod (ve_op ov_sub (ve_op ov_fdiv (ve_op ov_add (vpv 7) (vpv 3)) (vpv 1)) (ve_op ov_fdiv (ve_op ov_add (vpv 6) (ve_fld (C := T.C_Deal) rfl T.n_Deal_shift (vpv 0) rfl)) (vpv 1))) (vpv 5)))
      (vss_one (vs_aug (i := 4) sc_cost_at.nd rfl (Or.inl rfl) (ve_op ov_mul (ve_op ov_mul (vpv 8) (ve_fld (C := T.C_Deal) rfl T.n_Deal_houses (vpv 0) rfl)) (ve_callB (cv_min2 rfl) (by rfl) T.z_min (by decide +kernel) (va_cons (ve_fld (C := T.C_Deal) rfl T.n_Deal_block (vpv 0) rfl) (va_cons (ve_op ov_mul (vpv 1) (ve_callB (cv_min2 rfl) (by rfl) T.z_min (by decide +kernel) (va_cons (vpv 9) (va_cons (ve_op ov_sub (vpv 5) (vpv 9)) va_nil)))) va_nil)))) ip_add))))
      (vss_one (vs_ret (vpv 4))))), fun ts n Q hl h => ?_⟩
  match ts, h with
  | [d, .int p, t, .int sh], ⟨b, h', s', l, hd, ⟨b0, h0, s0, bb, hb, sb⟩, ⟨ts, hs, hr'⟩, bw, p0, pb, R0, h⟩ =>
    subst hd
    walk_at "w"
    refine seqV_of hs ?_
    refine for_rel isW1 (fun l' n' ρ => n' = n ∧ (∀ a ∈ l', a ∈ l) ∧ ∃ tot s6 s7 s8 s9, tot + cst b h' p (b * h' / p) s' sh l' = cst b h' p (b * h' / p) s' sh l ∧ ρ = [.v (dealT T b h' s'), .v (.int p), .v t, .v (.int sh), .v (.int tot), .v (.int (b * h' / p)), s6, s7, s8, s9]) ?_ ?_ hr' ⟨rfl, fun _ h => h, 0, _, _, _, _, Int.zero_add _, rfl⟩
    · rintro u ⟨f, o, wt⟩ l' n' ρ hu ⟨rfl, hm, tot, s6, s7, s8, s9, ht, rfl⟩ K1 hK
      have m := hm _ (List.mem_cons_self ..)
      have bf := bw.b1 _ m
      have bo := bw.b2 _ m
      have bwt := bw.b3 _ m
      refine gSeq_of hu ?_
      walk_at "w"
      refine hK _ _ ⟨rfl, fun a ma => hm a (List.mem_cons_of_mem _ ma), _, _, _, _, _, ?_, rfl⟩
      rw [← ht]
      rw [Int.add_assoc, min_sw b, min_sw (((o + sh) / p - (f + s') / p) % (b * h' / p))]
      rfl
    · rintro n' ρ ⟨rfl, hm, tot, s6, s7, s8, s9, ht, rfl⟩
      walk_at "w"
      rw [← ht] at h
      have h : Q (.int (tot + 0)) n' := h
      rw [Int.add_zero] at h
      exact h
end
end K27
namespace K27
open PySem L2 DS VL MT NdefX
set_option pp.maxSteps 2000
local macro_rules | `(tactic| walk_at "v") => `(tactic| try dsimp only [vNext, vSeq, vBreak, vCont, vDrop, vRet, vRetN, vIfS, vSet, vFrz, frz, frzS, vSetOL, gNm, VL.gNil, VL.gCons, gTupN, vAsg, parQ, vPar, par3Q, vPar3, vFor, iLst, lstQ, VL.iTup, tupQ, VL.iRng1, rng1Q, VL.iRng2, rng2Q, vVar, vv, gt, vC, vOp, vUn, vI, vI0, vU, vEqS, isNonT, isNQ, vIsN, vbl, vIf, vAndV, vOrV, vNotV, vChain, vTest, vNot, vYes, vNo, vAnd, vOr, vNil, vCons, vTup, vLst, lkQ, fldC, vFldC, fldO, vFldO, vCall, methQ, vMeth, vMake, vBinII, vBinIZ, vNegOwn, vEqII, ends, endsI, oiQ, startT, startI, vCB, cInt, cAbs, c2I, cDivmod, cLen, cList, cTuple, cSum, cAll, cAny, cSorted, ixL, ixT, ixQ, oNone, oiQ2, oSome, slQ, vSlL, vCat, truT, truQ, vTru, augQ, augS, vAug, isBt, isQ, cIsB, isCQ, cIsC, isSeq, vIsSeq, vEqD, inSQ, vIn, appQ, vApp, setK, setQ, vSetI, popK, popQ, vPop, olQ, vLenO, vIxO, vTruO, fsQ, vFldS, putT, self2P, self2Q, vSelf2, vLc, wipeT, vNever, revQ, vRev, vParO, vRaise1, toldQ, vToldA, hide, hideS, vParO2, gSeqN, seqV, iSeqV, vLtT, ixoQ, vIndex, defQ, vCallL2, ixS, vToldM, ite_tt, ite_ft, List.set, List.map, List.length, List.append, List.replicate, List.drop, List.nil_append, List.cons_append, List.append_nil, Nat.sub_self, Nat.reduceSub, List.replicate_zero, List.replicate_succ, Nat.reduceAdd, Bool.not_true, Bool.not_false, brE_true, brE_false, brT_true, brT_false, brS_true, brS_false, Bt.nm, vdraw, vpick, vten, vbegin, sp_is_integer, sp_is_whole, sp_need_integer, sp_need_positive, sp_need_step, sp_need_items, sp_is_step, dealT, sp_common_factor, sp_Deal___init__, sp_need_deal, sp_met, sp_need_wants, sp_cost_at, sp_tried_shifts, sp_shift_cost, sp_best_shift, sp_free_shifts, fl_Deal_houses, pt_Deal_houses, fl_Deal_block, pt_Deal_block, fq_Deal_1_0, fl_Deal_shift, pt_Deal_shift, fq_Deal_2_0, fq_Deal_2_1])
local macro_rules | `(tactic| walk_at "b") => `(tactic| first
  | with_reducible assumption
  | exact B.lit (k := 70) (by decide)
  | exact B.add (by walk_at "b") (by walk_at "b")
  | exact B.sub (by walk_at "b") (by walk_at "b")
  | exact B.neg (by walk_at "b")
  | exact B.mul (by walk_at "b") (by walk_at "b")
  | exact B.div (by walk_at "b")
  | exact B.mod (by walk_at "b") (by omega)
  | exact B.ite (by walk_at "b") (by walk_at "b")
  | exact B.ten _)
local macro_rules | `(tactic| walk_at "bb") => `(tactic| (with_reducible show B _ _; exact B.mono (by walk_at "b") (by first | decide | omega)))
local macro_rules | `(tactic| walk_at "sc") => `(tactic| first
  | with_reducible assumption
  | (with_reducible show (_ : Int) < 2 ^ 200; first | assumption | exact lt200 (by omega))
  | rfl
  | (show CMulA _ _; first | exact CMulA.s1 (by omega) (by omega) | exact CMulA.s2 (by omega) (by omega) | exact cmula (by walk_at "b") (by walk_at "b") (by first | decide | omega))
  | (show CDivW _ _; exact cdivw (by omega) (by walk_at "b") (by first | decide | omega))
  | (show CPow _ _; exact ⟨by decide, by decide, by decide⟩)
  | walk_at "bb"
  | omega
  | exact Nat.le_of_ble_eq_true rfl)
local macro_rules | `(tactic| walk_at "w") => `(tactic| (walk_at "v"; repeat ((first | refine And.intro (by walk_at "sc") ?_ | (with_reducible show Exists fun t => And (atI _ _ = some t) _; refine Exists.intro _ (And.intro rfl ?_))); walk_at "v")))

section
variable {P : Program} {w : World} {K : PySem.W.Frag} {mg : Str → Option Value} {base : Heap}
theorem deal_R {T : Tx w K mg} {d : Tr} {y A z : Prop} (h : okQ (isDlT d) ((∃ b h s, d = dealT T b h s) ∧ A) z) (g : A → y) : (∀ C fs, d = .ins C fs → C = T.C_Deal) ∧ okQ (isDlT d) y z := by
  cases d with
  | ins C fs =>
    obtain ⟨⟨b, h', s, e⟩, a⟩ := h
    cases e
    exact ⟨fun C fs e => by cases e; rfl, g a⟩
  | _ => first | exact h.elim | exact ⟨fun C fs e => (nomatch e), h⟩
theorem okQ_mono {o : Option Bool} {y y' z : Prop} (h : okQ o y z) (g : y → y') : okQ o y' z := by
  cases o with
  | none => exact h
  | some b => cases b with
    | true => exact g h
    | false => exact h
theorem wantsQ_mono {p : Tr → Option Bool} {y y' : Prop} {z : Tr → Prop} (g : y → y') : ∀ {ts : List Tr}, wantsQ p y z ts → wantsQ p y' z ts
  | [], h => g h
  | _ :: ts, h => okQ_mono h (wantsQ_mono g (ts := ts))
theorem wantsS_mono {p : Tr → Option Bool} {t : Tr} {y y' : Prop} {z : Tr → Prop} (h : wantsS p t y z) (g : y → y') : okQ (isItT t) (∀ ts, seqT t ts → wantsQ p (okQ (some (decide (ts ≠ []))) y' (z t)) z ts) (z t) :=
  okQ_mono h fun h ts s => wantsQ_mono (fun h => okQ_mono h g) (h ts s)
theorem wants_ok {p : Tr → Option Bool} {t : Tr} {ts : List Tr} {l : List I3} {y : Prop} {z : Tr → Prop} (hs : seqT t ts) (hr : RL isW1 ts l) (ne : l ≠ []) (hp : ∀ a ∈ l, p (.int a.2.2) = some true) (hy : y) : okQ (isItT t) (∀ ts, seqT t ts → wantsQ p (okQ (some (decide (ts ≠ []))) y (z t)) z ts) (z t) := by
  have it : isItT t = some true := by rcases hs with rfl | rfl <;> rfl
  refine okQ_T it fun us hu => ?_
  obtain rfl : us = ts := seqT_inj hu hs
  refine wantsQ_ok hr hp ?_
  rw [seq_ne hr ne]
  exact hy
theorem stp_ok {st : Int} (h : st ≠ 0) : isStpT (.int st) = some true := by show some (!decide (st = 0)) = _; rw [decide_eq_false h]; rfl
theorem wh_ok {l : List I3} (h : ∀ a ∈ l, 0 ≤ a.2.2) : ∀ a ∈ l, isWhT (.int a.2.2) = some true := fun a m => by show some (decide (0 ≤ a.2.2)) = _; rw [decide_eq_true (h a m)]
theorem deal_O {T : Tx w K mg} {b h s : Int} {y z : Prop} (g : y) : (∀ C fs, dealT T b h s = .ins C fs → C = T.C_Deal) ∧ okQ (isDlT (dealT T b h s)) y z := ⟨fun C fs e => by cases e; rfl, g⟩
theorem ok_shift_cost (T : Tx w K mg) : FnOk PR w K mg base (L2.CX PR w) 6 T.f_shift_cost T.fd_shift_cost ["deal", "step", "wants", "shift"] (lSp (gK T) 4 (sp_shift_cost T)) := by
  refine ok_v (fun _ l b => T.F_shift_cost.okX sc_shift_cost l b) rfl (fun cdv A outer s H E F0 xq hr => ?_)
  refine ⟨_, (vss_cons (vs_expr (ve_call (ok_need_deal T) (hr.mono (by decide)) (by rfl) T.g_need_deal T.F_need_deal.kp T.b_need_deal .nil (fun _ => .nil) hx_of (va_cons (vpv 0) va_nil)))
      (vss_cons (vs_expr (ve_call (ok_need_step T) (hr.mono (by decide)) (by rfl) T.g_need_step T.F_need_step.kp T.b_need_step .nil (fun _ => .nil) hx_of (va_cons (vpv 1) va_nil)))
      (vss_cons (vs_expr (ve_call (ok_need_wants T) (hr.mono (by decide)) (by rfl) T.g_need_wants T.F_need_wants.kp T.b_need_wants .nil (fun _ => .nil) hx_of (va_cons (vpv 2) (va_cons (ve_opq (pe_glob (v := .ref T.f_is_whole) (by rfl) T.g_is_whole rfl)) va_nil))))
      (vss_cons (vs_expr (ve_call (ok_need_integer T) (hr.mono (by decide)) (by rfl) T.g_need_integer T.F_need_integer.kp T.b_need_integer .nil (fun _ => .nil) hx_of (va_cons (vpv 3) va_nil)))
      (vss_one (vs_ret (ve_call (ok_cost_at T) (hr.mono (by decide)) (by rfl) T.g_cost_at T.F_cost_at.kp T.b_cost_at .nil (fun _ => .nil) hx_of (va_cons (vpv 0) (va_cons (ve_call (ok_common_factor T) (hr.mono (by decide)) (by rfl) T.g_common_factor T.F_common_factor.kp T.b_common_factor .nil (fun _ => .nil) hx_of (va_cons (vpv 1) (va_cons (ve_fld (C := T.C_Deal) rfl T.n_Deal_block (vpv 0) rfl) va_nil))) (va_cons (vpv 2) (va_cons (vpv 3) va_nil))))))))))), fun ts n Q hl h => ?_⟩
  rcases h with h | h
  · match ts, h with
    | [d, .int st, t, .int sh], ⟨b, h', s', l, hd, ok, ⟨ts, hs, hr'⟩, ne, bw, w0, st0, h⟩ =>
      subst hd
      have b0 := ok.b0
      walk_at "w"
      refine deal_O ?_
      walk_at "w"
      refine okQ_T (stp_ok st0) ?_
      walk_at "w"
      refine ⟨_, .inr ⟨rfl, rfl⟩, wants_ok (z := fun u => xq T.C_BadValue [("value", u)] n) hs hr' ne (wh_ok w0) ?_⟩
      walk_at "w"
      have g0 := gcd_pos_r st ok.b0
      exact ⟨b, h', s', l, rfl, ok, ⟨ts, hs, hr'⟩, bw, g0, gcd_bb ok.b0 ok.bb, gcd_ring ok.b0 ok.h0, h⟩
  · match ts, h with
    | [d, st, t, sh], h =>
      walk_at "w"
      refine deal_R h fun h => ?_
      walk_at "w"
      refine okQ_mono h fun h => ?_
      walk_at "w"
      refine ⟨_, .inr ⟨rfl, rfl⟩, wantsS_mono h fun h => ?_⟩
      walk_at "w"
      exact okQ_mono h False.elim
theorem fm_len {α β : Type} (f : α → List β) (c : Nat) : ∀ L : List α, (∀ a ∈ L, (f a).length ≤ c) → (L.flatMap f).length ≤ L.length * c
  | [], _ => by simp
  | a :: L, h => by
    have h1 := fm_len f c L (fun b m => h b (List.mem_cons_of_mem _ m))
    have h2 := h a (List.mem_cons_self ..)
    rw [List.flatMap_cons, List.length_append, List.length_cons, Nat.succ_mul]
    omega
theorem tried_len {p R s : Int} {l : List I3} (h : l.length ≤ 900) : (tried p R s l).length ≤ 811801 := by
  have := fm_len (fun rest => rest :: turns p R s rest l) (l.length + 1) (0 :: l.map fun a => -a.2.1 % p) (fun a _ => by simp [turns])
  rw [List.length_cons, List.length_map] at this
  have h2 : (l.length + 1) * (l.length + 1) ≤ 901 * 901 := Nat.mul_le_mul (by omega) (by omega)
  unfold tried
  omega
theorem szl {n : Nat} (h : n ≤ 16000000) : n ≤ sizeLine := Nat.le_trans h (by decide)
theorem szlt {n : Nat} (h : n ≤ 16000000) : n < sizeLine := Nat.lt_of_le_of_lt h (by decide)
theorem ok_tried_shifts (T : Tx w K mg) : FnOk PR w K mg base (L2.CX PR w) 1 T.f_tried_shifts T.fd_tried_shifts ["deal", "part", "wants"] (lSp (gK T) 3 (sp_tried_shifts T)) := by
  refine ok_v (fun _ l b => T.F_tried_shifts.okX sc_tried_shifts l b) rfl (fun cdv A outer s H E F0 xq hr => ?_)
  refine ⟨_, (vss_cons (vs_parO2 (i := 3) (j := 4) (ps_par (i := 3) (j := 4) rfl sc_tried_shifts.nd rfl rfl (by decide) rfl rfl (pa_cons (ve_op ov_fdiv (ve_op ov_mul (ve_fld (C := T.C_Deal) rfl T.n_Deal_block (vpv 0) rfl) (ve_fld (C := T.C_Deal) rfl T.n_Deal_houses (vpv 0) rfl)) (vpv 1)) (pa_cons (pe_lst va_nil) pa_nil)) rfl))
      (vss_cons (vs_for (vs := [8]) own_of rfl (vi_list rfl (ve_op ov_cat (ve_lst (va_cons ve_int va_nil)) (ve_lc (own := [("first", 5), ("other", 6), ("weight", 7)]) rfl sc_tried_shifts.nd (vi_seqV (i := 2) rfl (vpv 2)) (blkOk_by (N := N_tried_shifts) (sc := defScope s_tried_shifts) (by decide +kernel)) (fun _ _ _ _ _ => (vg_seq (m := 3) rfl rfl (vgs_cons (vg_name (i := 5) (by decide) sc_tried_shifts.nd rfl (Or.inl rfl)) (vgs_cons (vg_name (i := 6) (by decide) sc_tried_shifts.nd rfl (Or.inl rfl)) (vgs_cons (vg_name (i := 7) (by decide) sc_tried_shifts.nd rfl (Or.inl rfl)) vgs_nil))))) (fun _ _ _ _ _ => vts_nil) (fun _ _ _ _ _ => (ve_op ov_mod (ve_un VL.un_neg (vpv 6)) (vpv 1)))))) (vg_name (i := 8) (by decide) sc_tried_shifts.nd rfl (Or.inl rfl))
      (vss_cons (vs_app (i := 4) (ps_expr (pe_bm PySem.F.plainAttrs_list PySem.F.slot_list_append PySem.F.type_list_append mt_append (pv 4) (pa_cons (vpv 8) pa_nil))))
      (vss_one (vs_for (vs := [5, 6, 7]) own_of rfl (vi_seqV (i := 2) rfl (vpv 2)) (vg_seq (m := 3) rfl rfl (vgs_cons (vg_name (i := 5) (by decide) sc_tried_shifts.nd rfl (Or.inl rfl)) (vgs_cons (vg_name (i := 6) (by decide) sc_tried_shifts.nd rfl (Or.inl rfl)) (vgs_cons (vg_name (i := 7) (by decide) sc_tried_shifts.nd rfl (Or.inl rfl)) vgs_nil))))
      (vss_cons (vs_set (i := 9) sc_tried_shifts.nd rfl (Or.inl rfl) (ve_op ov_sub (ve_op ov_fdiv (ve_op ov_add (vpv 5) (ve_fld (C := T.C_Deal) rfl T.n_Deal_shift (vpv 0) rfl)) (vpv 1)) (ve_op ov_fdiv (ve_op ov_add (vpv 6) (vpv 8)) (vpv 1))))
      (vss_one (vs_app (i := 4) (ps_expr (pe_bm PySem.F.plainAttrs_list PySem.F.slot_list_append PySem.F.type_list_append mt_append (pv 4) (pa_cons (ve_op ov_add (vpv 8) (ve_op ov_mul (vpv 1) (ve_op ov_mod (vpv 9) (vpv 3)))) pa_nil))))))))))
      (vss_frz 4 (vss_one (vs_ret (vpv 4)))))), fun ts n Q hl h => ?_⟩
  match ts, h with
  | [d, .int p, t], ⟨b, h', s', l, hd, ⟨b0, h0, s0, bb, hb, sb⟩, ⟨ts, hs, hr'⟩, bw, p0, pb, R0, h⟩ =>
    subst hd
    have ll := bw.len
    have lt := hr'.length
    have tl := tried_len (p := p) (R := b * h' / p) (s := s') ll
    walk_at "w"
    refine seqV_of hs ?_
    refine lc_rel isW1 (fun a => .int (-a.2.1 % p)) hr' (szl (by omega)) ?_ ?_
    · rintro u ⟨f, o, wt⟩ m hu K1 k1
      refine gSeq_of hu ?_
      walk_at "w"
      exact k1
    · walk_at "w"
      refine ⟨szl (by simp; omega), ?_⟩
      rw [show Tr.int 0 :: l.map (fun a => Tr.int (-a.2.1 % p)) = (0 :: l.map fun a => -a.2.1 % p).map Tr.int by simp]
      refine for_rem Tr.int (fun rem n' ρ => n' = n ∧ ∃ dn s5 s6 s7 s8 s9, dn ++ rem.flatMap (fun rest => rest :: turns p (b * h' / p) s' rest l) = tried p (b * h' / p) s' l ∧ ρ = [.v (dealT T b h' s'), .v (.int p), .v t, .v (.int (b * h' / p)), .ol (dn.map Tr.int), s5, s6, s7, s8, s9]) ?_ ?_ ⟨rfl, [], _, _, _, _, _, rfl, rfl⟩
      · rintro rest rem n' ρ ⟨rfl, dn, s5, s6, s7, s8, s9, e, rfl⟩ K1 hK
        have dl : dn.length ≤ 811801 := by
          have := congrArg List.length e
          rw [List.length_append] at this
          omega
        rw [List.flatMap_cons] at e
        walk_at "w"
        refine ⟨szlt (by rw [List.length_map]; omega), ?_⟩
        walk_at "w"
        refine seqV_of hs ?_
        refine for_rel isW1 (fun l' n2 ρ => n2 = n' ∧ (∀ a ∈ l', a ∈ l) ∧ ∃ dn2 s5 s6 s7 s9, dn2 ++ (turns p (b * h' / p) s' rest l' ++ rem.flatMap (fun rest => rest :: turns p (b * h' / p) s' rest l)) = tried p (b * h' / p) s' l ∧ ρ = [.v (dealT T b h' s'), .v (.int p), .v t, .v (.int (b * h' / p)), .ol (dn2.map Tr.int), s5, s6, s7, .v (.int rest), s9]) ?_ ?_ hr' ⟨rfl, fun _ m => m, dn ++ [rest], _, _, _, _, (by rw [← e]; simp), (by rw [List.map_append]; rfl)⟩
        · rintro u ⟨f, o, wt⟩ l' n2 ρ hu ⟨rfl, hm, dn2, s5, s6, s7, s9, e, rfl⟩ K2 hK2
          have dl : dn2.length ≤ 811801 := by
            have := congrArg List.length e
            rw [List.length_append] at this
            omega
          refine gSeq_of hu ?_
          walk_at "w"
          refine ⟨szlt (by rw [List.length_map]; omega), ?_⟩
          walk_at "w"
          refine hK2 _ _ ⟨rfl, fun a ma => hm a (List.mem_cons_of_mem _ ma), dn2 ++ [rest + p * (((f + s') / p - (o + rest) / p) % (b * h' / p))], _, _, _, _, ?_, (by rw [List.map_append]; rfl)⟩
          rw [← e]
          simp [turns]
        · rintro n2 ρ ⟨rfl, hm, dn2, s5, s6, s7, s9, e, rfl⟩
          exact hK _ _ ⟨rfl, dn2, _, _, _, _, _, e, rfl⟩
      · rintro n' ρ ⟨rfl, dn, s5, s6, s7, s8, s9, e, rfl⟩
        walk_at "w"
        rw [List.flatMap_nil, List.append_nil] at e
        rw [e]
        exact h
theorem lexLt2 (a b c d : Int) : HT.lexLt [a, b] [c, d] = decide (a < c ∨ (a = c ∧ b < d)) := by
  rw [HT.lexLt_cons, HT.lexLt_cons, HT.lexLt_nil_nil]
  by_cases h : a = c
  · subst h
    rw [if_pos rfl]
    by_cases h2 : b = d
    · subst h2; rw [if_pos rfl]; simp
    · rw [if_neg h2]; exact dec_congr (by omega)
  · rw [if_neg h]; exact dec_congr (by omega)
theorem ok_best_shift (T : Tx w K mg) : FnOk PR w K mg base (L2.CX PR w) 6 T.f_best_shift T.fd_best_shift ["deal", "step", "wants"] (lSp (gK T) 3 (sp_best_shift T)) := by
  refine ok_v (fun _ l b => T.F_best_shift.okX sc_best_shift l b) rfl (fun cdv A outer s H E F0 xq hr => ?_)
  refine ⟨_, (vss_cons (vs_expr (ve_call (ok_need_deal T) (hr.mono (by decide)) (by rfl) T.g_need_deal T.F_need_deal.kp T.b_need_deal .nil (fun _ => .nil) hx_of (va_cons (vpv 0) va_nil)))
      (vss_cons (vs_expr (ve_call (ok_need_step T) (hr.mono (by decide)) (by rfl) T.g_need_step T.F_need_step.kp T.b_need_step .nil (fun _ => .nil) hx_of (va_cons (vpv 1) va_nil)))
      (vss_cons (vs_expr (ve_call (ok_need_wants T) (hr.mono (by decide)) (by rfl) T.g_need_wants T.F_need_wants.kp T.b_need_wants .nil (fun _ => .nil) hx_of (va_cons (vpv 2) (va_cons (ve_opq (pe_glob (v := .ref T.f_is_whole) (by rfl) T.g_is_whole rfl)) va_nil))))
      (vss_cons (vs_set (i := 3) sc_best_shift.nd rfl (Or.inl rfl) (ve_call (ok_common_factor T) (hr.mono (by decide)) (by rfl) T.g_common_factor T.F_common_factor.kp T.b_common_factor .nil (fun _ => .nil) hx_of (va_cons (vpv 1) (va_cons (ve_fld (C := T.C_Deal) rfl T.n_Deal_block (vpv 0) rfl) va_nil))))
      (vss_cons (vs_set (i := 4) sc_best_shift.nd rfl (Or.inl rfl) ve_non)
      (vss_cons (vs_for (vs := [5]) own_of rfl (vi_list rfl (ve_call (ok_tried_shifts T) (hr.mono (by decide)) (by rfl) T.g_tried_shifts T.F_tried_shifts.kp T.b_tried_shifts .nil (fun _ => .nil) hx_of (va_cons (vpv 0) (va_cons (vpv 3) (va_cons (vpv 2) va_nil))))) (vg_name (i := 5) (by decide) sc_best_shift.nd rfl (Or.inl rfl))
      (vss_cons (vs_set (i := 6) sc_best_shift.nd rfl (Or.inl rfl) (ve_tup (va_cons (ve_call (ok_cost_at T) (hr.mono (by decide)) (by rfl) T.g_cost_at T.F_cost_at.kp T.b_cost_at .nil (fun _ => .nil) hx_of (va_cons (vpv 0) (va_cons (vpv 3) (va_cons (vpv 2) (va_cons (vpv 5) va_nil))))) (va_cons (vpv 5) va_nil))))
      (vss_one (vs_if (PW.pt (vw_or (vt_cmp ov_isN (vpv 4) ve_non (nomark _)) (vw_or1 (vt_cmp (ov_ltT rfl (Nat.lt_of_succ_lt (hu_of hr))) (vpv 6) (vpv 4) (nomark _))))) (vss_one (vs_set (i := 4) sc_best_shift.nd rfl (Or.inl rfl) (vpv 6))) vss_nil))))
      (vss_one (vs_ret (vpv 4))))))))), fun ts n Q hl h => ?_⟩
  rcases h with h | h
  · match ts, h with
    | [d, .int st, t], ⟨b, h', s', l, hd, ok, ⟨ts, hs, hr'⟩, ne, bw, w0, st0, h⟩ =>
      subst hd
      have b0 := ok.b0
      walk_at "w"
      refine deal_O ?_
      walk_at "w"
      refine okQ_T (stp_ok st0) ?_
      walk_at "w"
      refine ⟨_, .inr ⟨rfl, rfl⟩, wants_ok (z := fun u => xq T.C_BadValue [("value", u)] n) hs hr' ne (wh_ok w0) ?_⟩
      walk_at "w"
      have g0 := gcd_pos_r st ok.b0
      have gb := gcd_bb (st := st) ok.b0 ok.bb
      have gr := gcd_ring (st := st) ok.b0 ok.h0
      refine ⟨b, h', s', l, rfl, ok, ⟨ts, hs, hr'⟩, bw, g0, gb, gr, ?_⟩
      generalize hL : tried (Int.gcd st b : Nat) (b * h' / (Int.gcd st b : Nat)) s' l = L
      walk_at "w"
      refine for_rem Tr.int (fun rem n' ρ => n' = n ∧ ∃ o s5 s6, rem.foldl (bstep fun sh => cst b h' (Int.gcd st b : Nat) (b * h' / (Int.gcd st b : Nat)) s' sh l) o = bestS b h' s' st l ∧ ρ = [.v (dealT T b h' s'), .v (.int st), .v t, .v (.int (Int.gcd st b : Nat)), .v (optT o), s5, s6]) ?_ ?_ ⟨rfl, none, _, _, (by rw [← hL]; rfl), rfl⟩
      · rintro sh rem n' ρ ⟨rfl, o, s5, s6, e, rfl⟩ K1 hK
        walk_at "w"
        refine ⟨b, h', s', l, rfl, ok, ⟨ts, hs, hr'⟩, bw, g0, gb, gr, ?_⟩
        walk_at "w"
        rw [List.foldl_cons] at e
        cases o with
        | none =>
          walk_at "w"
          exact hK _ _ ⟨rfl, _, _, _, e, rfl⟩
        | some q =>
          obtain ⟨c, u⟩ := q
          walk_at "w"
          refine ⟨[_, _], [_, _], rfl, rfl, ?_⟩
          rw [lexLt2]
          walk_at "w"
          refine brS_d (fun z => ?_) (fun z => ?_)
          · walk_at "w"
            have e1 : bstep (fun sh => cst b h' (Int.gcd st b : Nat) (b * h' / (Int.gcd st b : Nat)) s' sh l) (some (c, u)) sh = some (cst b h' (Int.gcd st b : Nat) (b * h' / (Int.gcd st b : Nat)) s' sh l, sh) := if_pos z
            rw [e1] at e
            exact hK _ _ ⟨rfl, _, _, _, e, rfl⟩
          · walk_at "w"
            have e1 : bstep (fun sh => cst b h' (Int.gcd st b : Nat) (b * h' / (Int.gcd st b : Nat)) s' sh l) (some (c, u)) sh = some (c, u) := if_neg z
            rw [e1] at e
            exact hK _ _ ⟨rfl, _, _, _, e, rfl⟩
      · rintro n' ρ ⟨rfl, o, s5, s6, e, rfl⟩
        walk_at "w"
        exact h _ (congrArg optT e)
  · match ts, h with
    | [d, st, t], h =>
      walk_at "w"
      refine deal_R h fun h => ?_
      walk_at "w"
      refine okQ_mono h fun h => ?_
      walk_at "w"
      exact ⟨_, .inr ⟨rfl, rfl⟩, wantsS_mono h False.elim⟩
end
end K27
namespace K27
open PySem L2 DS VL MT NdefX
set_option pp.maxSteps 2000
local macro_rules | `(tactic| walk_at "v") => `(tactic| try dsimp only [vNext, vSeq, vBreak, vCont, vDrop, vRet, vRetN, vIfS, vSet, vFrz, frz, frzS, vSetOL, gNm, VL.gNil, VL.gCons, gTupN, vAsg, parQ, vPar, par3Q, vPar3, vFor, iLst, lstQ, VL.iTup, tupQ, VL.iRng1, rng1Q, VL.iRng2, rng2Q, vVar, vv, gt, vC, vOp, vUn, vI, vI0, vU, vEqS, isNonT, isNQ, vIsN, vbl, vIf, vAndV, vOrV, vNotV, vChain, vTest, vNot, vYes, vNo, vAnd, vOr, vNil, vCons, vTup, vLst, lkQ, fldC, vFldC, fldO, vFldO, vCall, methQ, vMeth, vMake, vBinII, vBinIZ, vNegOwn, vEqII, ends, endsI, oiQ, startT, startI, vCB, cInt, cAbs, c2I, cDivmod, cLen, cList, cTuple, cSum, cAll, cAny, cSorted, ixL, ixT, ixQ, oNone, oiQ2, oSome, slQ, vSlL, vCat, truT, truQ, vTru, augQ, augS, vAug, isBt, isQ, cIsB, isCQ, cIsC, isSeq, vIsSeq, vEqD, inSQ, vIn, appQ, vApp, setK, setQ, vSetI, popK, popQ, vPop, olQ, vLenO, vIxO, vTruO, fsQ, vFldS, putT, self2P, self2Q, vSelf2, vLc, wipeT, vNever, revQ, vRev, vParO, vRaise1, toldQ, vToldA, hide, hideS, vParO2, gSeqN, seqV, iSeqV, vLtT, ixoQ, vIndex, defQ, vCallL2, ixS, vToldM, ite_tt, ite_ft, List.set, List.map, List.length, List.append, List.replicate, List.drop, List.nil_append, List.cons_append, List.append_nil, Nat.sub_self, Nat.reduceSub, List.replicate_zero, List.replicate_succ, Nat.reduceAdd, Bool.not_true, Bool.not_false, brE_true, brE_false, brT_true, brT_false, brS_true, brS_false, Bt.nm, vdraw, vpick, vten, vbegin, sp_is_integer, sp_is_whole, sp_need_integer, sp_need_positive, sp_need_step, sp_need_items, sp_is_step, dealT, sp_common_factor, sp_Deal___init__, sp_need_deal, sp_met, sp_need_wants, sp_cost_at, sp_tried_shifts, sp_shift_cost, sp_best_shift, sp_free_shifts, fl_Deal_houses, pt_Deal_houses, fl_Deal_block, pt_Deal_block, fq_Deal_1_0, fl_Deal_shift, pt_Deal_shift, fq_Deal_2_0, fq_Deal_2_1])
local macro_rules | `(tactic| walk_at "b") => `(tactic| first
  | with_reducible assumption
  | exact B.lit (k := 70) (by decide)
  | exact B.add (by walk_at "b") (by walk_at "b")
  | exact B.sub (by walk_at "b") (by walk_at "b")
  | exact B.neg (by walk_at "b")
  | exact B.mul (by walk_at "b") (by walk_at "b")
  | exact B.div (by walk_at "b")
  | exact B.mod (by walk_at "b") (by omega)
  | exact B.ite (by walk_at "b") (by walk_at "b")
  | exact B.ten _)
local macro_rules | `(tactic| walk_at "bb") => `(tactic| (with_reducible show B _ _; exact B.mono (by walk_at "b") (by first | decide | omega)))
local macro_rules | `(tactic| walk_at "sc") => `(tactic| first
  | with_reducible assumption
  | (with_reducible show (_ : Int) < 2 ^ 200; first | assumption | exact lt200 (by omega))
  | rfl
  | (show CMulA _ _; first | exact CMulA.s1 (by omega) (by omega) | exact CMulA.s2 (by omega) (by omega) | exact cmula (by walk_at "b") (by walk_at "b") (by first | decide | omega))
  | (show CDivW _ _; exact cdivw (by omega) (by walk_at "b") (by first | decide | omega))
  | (show CPow _ _; exact ⟨by decide, by decide, by decide⟩)
  | walk_at "bb"
  | omega
  | exact Nat.le_of_ble_eq_true rfl)
local macro_rules | `(tactic| walk_at "w") => `(tactic| (walk_at "v"; repeat ((first | refine And.intro (by walk_at "sc") ?_ | (with_reducible show Exists fun t => And (atI _ _ = some t) _; refine Exists.intro _ (And.intro rfl ?_))); walk_at "v")))

section
variable {P : Program} {w : World} {K : PySem.W.Frag} {mg : Str → Option Value} {base : Heap}
def fin (W : Int) : Option (Int × Int) → Option (Int × Int)
  | some (f, m) => some (f % W, m)
  | none => none
theorem fold_none {b h s : Int} : ∀ l, List.foldl (freeStep b h s) none l = none
  | [] => rfl
  | _ :: l => fold_none l
theorem freeS_cons {b h s : Int} (a : I3) (l : List I3) : freeS b h s (a :: l) = fin (b * h) (l.foldl (freeStep b h s) (some (stretch b h s a))) := rfl
theorem ok_free_shifts (T : Tx w K mg) : FnOk PR w K mg base (L2.CX PR w) 6 T.f_free_shifts T.fd_free_shifts ["deal", "wants"] (lSp (gK T) 2 (sp_free_shifts T)) := by
  refine ok_v (fun _ l b => T.F_free_shifts.okX sc_free_shifts l b) rfl (fun cdv A outer s H E F0 xq hr => ?_)
  refine ⟨_, (vss_cons (vs_expr (ve_call (ok_need_deal T) (hr.mono (by decide)) (by rfl) T.g_need_deal T.F_need_deal.kp T.b_need_deal .nil (fun _ => .nil) hx_of (va_cons (vpv 0) va_nil)))
      (vss_cons (vs_expr (ve_call (ok_need_wants T) (hr.mono (by decide)) (by rfl) T.g_need_wants T.F_need_wants.kp T.b_need_wants .nil (fun _ => .nil) hx_of (va_cons (vpv 1) (va_cons (ve_opq (pe_glob (v := .ref T.f_is_step) (by rfl) T.g_is_step rfl)) va_nil))))
      (vss_cons (vs_if (vt_cmp ov_eqS (ve_fld (C := T.C_Deal) rfl T.n_Deal_houses (vpv 0) rfl) ve_int (nomark _)) (vss_one (vs_ret (ve_tup (va_cons ve_int (va_cons ve_int va_nil))))) vss_nil)
      (vss_cons (vs_of (ps_par (i := 2) (j := 3) rfl sc_free_shifts.nd rfl rfl (by decide) rfl rfl (va_cons (ve_op ov_mul (ve_fld (C := T.C_Deal) rfl T.n_Deal_block (vpv 0) rfl) (ve_fld (C := T.C_Deal) rfl T.n_Deal_houses (vpv 0) rfl)) (va_cons ve_non va_nil)) rfl) fun _ _ _ h => par_in h)
      (vss_cons (vs_for (vs := [4, 5, 6]) own_of rfl (vi_seqV (i := 1) rfl (vpv 1)) (vg_seq (m := 3) rfl rfl (vgs_cons (vg_name (i := 4) (by decide) sc_free_shifts.nd rfl (Or.inl rfl)) (vgs_cons (vg_name (i := 5) (by decide) sc_free_shifts.nd rfl (Or.inl rfl)) (vgs_cons (vg_name (i := 6) (by decide) sc_free_shifts.nd rfl (Or.inl rfl)) vgs_nil))))
      (vss_cons (vs_set (i := 7) sc_free_shifts.nd rfl (Or.inl rfl) (ve_call (ok_common_factor T) (hr.mono (by decide)) (by rfl) T.g_common_factor T.F_common_factor.kp T.b_common_factor .nil (fun _ => .nil) hx_of (va_cons (vpv 6) (va_cons (ve_fld (C := T.C_Deal) rfl T.n_Deal_block (vpv 0) rfl) va_nil))))
      (vss_cons (vs_set (i := 8) sc_free_shifts.nd rfl (Or.inl rfl) (ve_tup (va_cons (ve_op ov_mod (ve_op ov_sub (ve_op ov_mul (vpv 7) (ve_op ov_fdiv (ve_op ov_add (vpv 4) (ve_fld (C := T.C_Deal) rfl T.n_Deal_shift (vpv 0) rfl)) (vpv 7))) (vpv 5)) (vpv 2)) (va_cons (vpv 7) va_nil))))
      (vss_cons (vs_set (i := 3) sc_free_shifts.nd rfl (Or.inl rfl) (ve_ifExp (vt_cmp ov_isN (vpv 3) ve_non (nomark _)) (vpv 8) (ve_call (ok_met T) (hr.mono (by decide)) (by rfl) T.g_met T.F_met.kp T.b_met .nil (fun _ => .nil) hx_of (va_cons (vpv 3) (va_cons (vpv 8) (va_cons (vpv 2) va_nil))))))
      (vss_one (vs_if (vt_cmp ov_isN (vpv 3) ve_non (nomark _)) (vss_one (vs_ret ve_non)) vss_nil))))))
      (vss_one (vs_ret (ve_tup (va_cons (ve_op ov_mod (ve_ix (iv_tup rfl) (vpv 3) ve_int (fun _ _ => rfl)) (vpv 2)) (va_cons (ve_ix (iv_tup rfl) (vpv 3) ve_int (fun _ _ => rfl)) va_nil)))))))))), fun ts n Q hl h => ?_⟩
  rcases h with h | h
  · match ts, h with
    | [d, t], ⟨b, h', s', l, hd, ok, ⟨ts, hs, hr'⟩, ne, bw, w0, h⟩ =>
      subst hd
      have b0 := ok.b0
      have h0 := ok.h0
      have bb := ok.bb
      have hb := ok.hb
      have sb := ok.sb
      have W0 := Int.mul_pos b0 h0
      walk_at "w"
      refine deal_O ?_
      walk_at "w"
      refine ⟨_, .inl ⟨rfl, rfl⟩, wants_ok (z := fun u => xq T.C_BadValue [("value", u)] n) hs hr' ne (fun a m => stp_ok (w0 a m)) ?_⟩
      walk_at "w"
      refine brS_d (fun z => ?_) (fun z => ?_)
      · walk_at "w"
        exact h _ (if_pos z).symm
      · rw [if_neg z] at h
        walk_at "w"
        refine seqV_of hs ?_
        refine for_rel isW1 (fun l' n' ρ => n' = n ∧ (∀ a ∈ l', a ∈ l) ∧ ∃ o s4 s5 s6 s7 s8, ((l' = l ∧ o = none) ∨ ∃ f m, o = some (f, m) ∧ fin (b * h') (l'.foldl (freeStep b h' s') (some (f, m))) = freeS b h' s' l) ∧ ρ = [.v (dealT T b h' s'), .v t, .v (.int (b * h')), .v (optT o), s4, s5, s6, s7, s8]) ?_ ?_ hr' ⟨rfl, fun _ m => m, none, _, _, _, _, _, .inl ⟨rfl, rfl⟩, rfl⟩
        · rintro u ⟨f, o', st⟩ l' n' ρ hu ⟨rfl, hm, o, s4, s5, s6, s7, s8, ho, rfl⟩ K1 hK
          have m := hm _ (List.mem_cons_self ..)
          have bf := bw.b1 _ m
          have bo := bw.b2 _ m
          have bst := bw.b3 _ m
          have g0 := gcd_pos_r st ok.b0
          have gb := gcd_bb (st := st) ok.b0 ok.bb
          have hm' : ∀ a ∈ l', a ∈ l := fun a ma => hm a (List.mem_cons_of_mem _ ma)
          refine gSeq_of hu ?_
          walk_at "w"
          rcases ho with ⟨e, rfl⟩ | ⟨f1, m1, rfl, e⟩
          · walk_at "w"
            refine hK _ _ ⟨rfl, hm', some (stretch b h' s' (f, o', st)), _, _, _, _, _, .inr ⟨_, _, rfl, ?_⟩, rfl⟩
            rw [← e]
            exact (freeS_cons _ _).symm
          · walk_at "w"
            rintro t rfl
            have e2 : met (b * h') f1 m1 (((Int.gcd st b : Nat) * ((f + s') / (Int.gcd st b : Nat)) - o') % (b * h')) (Int.gcd st b : Nat) = freeStep b h' s' (some (f1, m1)) (f, o', st) := rfl
            rw [List.foldl_cons] at e
            rw [e2]
            cases hq : freeStep b h' s' (some (f1, m1)) (f, o', st) with
            | none =>
              walk_at "w"
              rw [hq, fold_none] at e
              rw [← e] at h
              exact h _ rfl
            | some q =>
              obtain ⟨f2, m2⟩ := q
              walk_at "w"
              refine hK _ _ ⟨rfl, hm', some (f2, m2), _, _, _, _, _, .inr ⟨_, _, rfl, ?_⟩, rfl⟩
              rw [← hq]
              exact e
        · rintro n' ρ ⟨rfl, hm, o, s4, s5, s6, s7, s8, ho, rfl⟩
          rcases ho with ⟨e, rfl⟩ | ⟨f1, m1, rfl, e⟩
          · exact absurd e.symm ne
          · rw [show optT (some (f1, m1)) = .tup [.int f1, .int m1] from rfl]
            walk_at "w"
            rw [← e] at h
            exact h _ rfl
  · match ts, h with
    | [d, t], h =>
      walk_at "w"
      refine deal_R h fun h => ?_
      walk_at "w"
      exact ⟨_, .inl ⟨rfl, rfl⟩, wantsS_mono h False.elim⟩
end
end K27
namespace K27
open PySem L2 DS VL
set_option pp.maxSteps 1200
local macro_rules | `(tactic| walk_at "c") => `(tactic| first
  | (dsimp only; omega)
  | omega
  | (show CMulA _ _; first | exact CMulA.s1 (by omega) (by omega) | exact CMulA.s2 (by omega) (by omega))
  | (show CDivW _ _; first | exact ⟨by omega, by assumption⟩ | exact ⟨by omega, by decide⟩)
  | (show CPow _ _; exact ⟨by decide, by decide, by decide⟩)
  | assumption)
local macro_rules | `(tactic| walk_at "get") => `(tactic| first
  | assumption
  | (refine (by assumption : Same _ _) _ _ ?_; walk_at "get")
  | (refine (by assumption : Keep _ _) _ _ ?_ rfl; walk_at "get"))
local macro_rules | `(tactic| walk_at "pen") => `(tactic| first
  | assumption
  | (refine Pen.same (by assumption) ?_; walk_at "pen")
  | (refine Pen.mono ?_ (by omega); assumption))
local macro_rules | `(tactic| walk_at "keep") => `(tactic| first
  | assumption
  | exact Keep.refl _
  | exact Keep.of (by assumption)
  | (refine Keep.trans ?_ (by assumption); walk_at "keep")
  | (refine Keep.same ?_ (by assumption); walk_at "keep"))
local macro_rules | `(tactic| walk_at "same") => `(tactic| first
  | assumption
  | exact Same.refl _
  | (refine Same.trans ?_ (by assumption); walk_at "same"))
local macro_rules | `(tactic| walk_at "s0") => `(tactic| first
  | with_reducible refine w_seq ?_
  | with_reducible refine w_asg ?_
  | with_reducible refine w_name ?_
  | ((with_reducible apply w_var); exact rfl)
  | with_reducible refine w_c ?_
  | with_reducible refine w_op ?_
  | with_reducible refine w_I0 ?_
  | ((with_reducible apply w_I); (walk_at "c"))
  | with_reducible refine w_cons ?_
  | with_reducible refine w_nil ?_
  | with_reducible refine w_cb ?_
  | with_reducible refine w_int1 ?_
  | with_reducible refine w_int1b ?_
  | with_reducible refine w_call ?_
  | with_reducible refine w_test ?_
  | with_reducible refine w_k ?_
  | with_reducible refine w_ret ?_
  | with_reducible refine w_drop ?_
  | with_reducible refine w_not ?_
  | with_reducible refine w_and ?_
  | with_reducible refine w_or ?_
  | with_reducible refine w_andV ?_
  | with_reducible refine w_orV ?_
  | with_reducible refine w_notV ?_
  | with_reducible refine w_if ?_
  | with_reducible refine w_B ?_
  | with_reducible refine w_un ?_
  | with_reducible refine w_U ?_
  | (with_reducible refine w_tup ?_; intro _ _)
  | (with_reducible refine w_lst ?_; intro _ _)
  | with_reducible refine w_dget ?_
  | with_reducible refine w_dput ?_
  | with_reducible refine w_fld ?_
  | with_reducible refine w_meth ?_
  | (with_reducible refine w_make ?_; intro _ _)
  | with_reducible refine w_par ?_
  | with_reducible refine w_par3 ?_
  | with_reducible refine w_two ?_
  | with_reducible refine w_three ?_
  | with_reducible refine w_one ?_
  | with_reducible refine w_chain ?_
  | with_reducible refine w_next ?_
  | with_reducible refine w_brk ?_
  | with_reducible refine w_cont ?_
  | with_reducible refine w_retN ?_
  | with_reducible refine w_gcons ?_
  | with_reducible refine w_gnil ?_
  | ((with_reducible refine w_eq ?_ ?_); exact rfl)
  | ((with_reducible refine w_ne ?_ ?_); exact rfl)
  | with_reducible refine w_part ?_
  | with_reducible refine w_lc ?_
  | with_reducible refine w_bm ?_
  | with_reducible refine w_lcS ?_
  | with_reducible refine w_yes ?_
  | with_reducible refine w_iTup ?_
  | with_reducible refine w_iList ?_
  | with_reducible refine w_unT ?_
  | with_reducible refine w_unT0 ?_
  | with_reducible refine w_unL ?_
  | with_reducible refine w_unL0 ?_
  | ((with_reducible apply w_gtup); (walk_at "get"); (exact rfl))
  | with_reducible refine w_gfld ?_
  | with_reducible refine w_sfld ?_
  | with_reducible refine w_risi ?_
  | with_reducible refine w_i ?_
  | with_reducible refine w_pnil ?_
  | with_reducible refine w_pcons ?_
  | with_reducible refine w_sl ?_
  | with_reducible refine w_nopart ?_
  | with_reducible refine w_for ?_
  | with_reducible refine w_while ?_
  | with_reducible refine w_irng1 ?_
  | with_reducible refine w_irng2 ?_
  | with_reducible refine And.intro (rfl : V.non = V.non) ?_)
local macro_rules | `(tactic| walk_at "s") => `(tactic| first | walk_at "s0" | with_reducible refine w_ifs ?_)
local macro_rules | `(tactic| walk_at "go") => `(tactic| repeat (walk_at "s"))
local macro_rules | `(tactic| walk_at "gi") => `(tactic| repeat (walk_at "s0"))

def pen (c : Addr) (a l : Int) : List (Key × V) := [(Sum.inr "cells", .ref c), (Sum.inr "at", .int a), (Sum.inr "left", .int l)]
theorem pen_cells (c : Addr) (a l : Int) : valV (pen c a l) (Sum.inr "cells") = some (.ref c) := by unfold pen valV; simp
theorem pen_at (c : Addr) (a l : Int) : valV (pen c a l) (Sum.inr "at") = some (.int a) := by
  have h : ¬ (("cells" : Str) = "at") := by decide +kernel
  unfold pen valV; simp [h]
theorem pen_left (c : Addr) (a l : Int) : valV (pen c a l) (Sum.inr "left") = some (.int l) := by
  have h : ¬ (("cells" : Str) = "left") := by decide +kernel
  have h2 : ¬ (("at" : Str) = "left") := by decide +kernel
  unfold pen valV; simp [h, h2]
theorem pen_put_at (c : Addr) (a l b : Int) : putK (pen c a l) (Sum.inr "at") (.int b) = pen c b l := by
  have h : ¬ (("cells" : Str) = "at") := by decide +kernel
  have h2 : ¬ (("left" : Str) = "at") := by decide +kernel
  unfold pen putK; simp [h, h2]
theorem pen_put_left (c : Addr) (a l b : Int) : putK (pen c a l) (Sum.inr "left") (.int b) = pen c a b := by
  have h : ¬ (("cells" : Str) = "left") := by decide +kernel
  have h2 : ¬ (("at" : Str) = "left") := by decide +kernel
  unfold pen putK; simp [h, h2]
theorem pen_len (c : Addr) (a l : Int) : (pen c a l).length < sizeLine := Nat.lt_of_lt_of_le (show 3 < 4 by decide) (by decide)
section
variable {P : Program} {w : World} {K : PySem.W.Frag} {mg : Str → Option Value} {base : Heap}
theorem ok__law_draw (T : Tx w K mg) : FnOk P w K mg base (L2.CX P w) 1 T.f__law_draw T.fd__law_draw ["_law_pen_here", "_law_span"] (lSp (gK T) 2 vdraw) := by
  refine FnOk.cx (T.F__law_draw.ok sc__law_draw (fun vs H Q E h => h.len) (fun cdv A outer s H vs Q E hr h => ?_))
  obtain ⟨n, F, ts, Q0, xq, hlen, sub, rr, h, th, _⟩ := h
  match ts, h, rr with
  | [.pen, .int many], ⟨h0, hb, hn, q⟩, rr =>
    obtain ⟨v, u, rfl, r1, r2⟩ := rr.two
    cases r2
    cases r1 with
    | pen hd =>
      rename_i d zz
      have hu := hu_of hr
      have hu64 := hu64_of hr
      obtain ⟨c, ns, a, l, h1, hc, ha0, han, hl0, hlen, hz⟩ := (sub.pen d hd).ex
      have h2 := sub.at_ hc
      have h1 : H d = some (.dK (pen c a l)) := h1
      have fin : ∀ (r : Int) (H' : Hp) (a' l' : Int), 0 ≤ r → r < many → H' d = some (.dK (pen c a' l')) → 0 ≤ a' → a' ≤ ((n + 1 : Nat) : Int) → 0 ≤ l' → ButV d H H' → Q (.int r) H' := fun r H' a' l' r0 r1 e a0 a1 l0 bt =>
        pen_end th sub hd bt e hc a0 a1 l0 hlen hz (.int r) (q r r0 r1)
      have hlog : many.natAbs.log2 < 9000 := log_lt h0 hb (by decide)
      refine ⟨_, (pss_cons (ps_if (pt_cmpR op_ge (pe_dget hu (pv 0) pe_str (fun _ _ => rfl)) (pv 1) (nomark _)) (pss_cons (ps_set (i := 2) sc__law_draw.nd rfl (Or.inl rfl) (pe_op op_mod (pe_callTy call_int1 (by rfl) T.z_int (by decide +kernel) (pa_cons (pe_dget hu (pv 0) pe_str (fun _ _ => rfl)) pa_nil)) (pv 1)))
      (pss_cons (ps_dput hu (pv 0) pe_str (pe_op op_fdivW (pe_dget hu (pv 0) pe_str (fun _ _ => rfl)) (pv 1)) rfl)
      (pss_one (ps_ret (pv 2))))) pss_nil)
      (pss_cons (ps_set (i := 3) sc__law_draw.nd rfl (Or.inl rfl) (pe_dget hu (pv 0) pe_str (fun _ _ => rfl)))
      (pss_cons (ps_dput hu (pv 0) pe_str (pe_op op_add (pv 3) pe_int) rfl)
      (pss_cons (ps_set (i := 4) sc__law_draw.nd rfl (Or.inl rfl) (pe_op op_add (pe_op op_mulA pe_int (pv 3)) pe_int))
      (pss_cons (ps_if (pt_cmpR (op_neD hu64) (pe_dget hu (pv 0) pe_str (fun _ _ => rfl)) (pe_lst pa_nil) (nomark _)) (pss_one (ps_set (i := 4) sc__law_draw.nd rfl (Or.inl rfl) (pe_ix ix_list (pe_dget hu (pv 0) pe_str (fun _ _ => rfl)) (pe_op op_mod (pe_callTy call_int1 (by rfl) T.z_int (by decide +kernel) (pa_cons (pv 3) pa_nil)) (pe_callB call_len_seq (by rfl) T.z_len PySem.boot_len (pa_cons (pe_dget hu (pv 0) pe_str (fun _ _ => rfl)) pa_nil))) (fun _ _ => rfl)))) pss_nil)
      (pss_cons (ps_if (PW.pt (pw_and (pt_cmpR op_lt (pv 3) (pe_callB call_len_seq (by rfl) T.z_len PySem.boot_len (pa_cons (pe_dget hu (pv 0) pe_str (fun _ _ => rfl)) pa_nil)) (nomark _)) (pw_and1 (pt_cmpR op_ge (pv 4) (pe_op op_pow pe_int pe_int) (nomark _))))) (pss_cons (ps_dput hu (pv 0) pe_str (pe_op op_fdivW (pe_op op_sub (pv 4) (pe_op op_pow pe_int pe_int)) (pv 1)) rfl)
      (pss_one (ps_ret (pe_op op_mod (pe_callTy call_int1 (by rfl) T.z_int (by decide +kernel) (pa_cons (pe_op op_sub (pv 4) (pe_op op_pow pe_int pe_int)) pa_nil)) (pv 1))))) pss_nil)
      (pss_cons (ps_set (i := 5) sc__law_draw.nd rfl (Or.inl rfl) (pe_op op_add (pe_op op_mulA (pe_op op_mod (pe_callTy call_int1 (by rfl) T.z_int (by decide +kernel) (pa_cons (pv 4) pa_nil)) pe_int) pe_int) (pe_op op_mulA (pe_op op_mulA pe_int (pv 3)) (pv 3))))
      (pss_cons (ps_set (i := 5) sc__law_draw.nd rfl (Or.inl rfl) (pe_op op_mod (pe_callTy call_int1 (by rfl) T.z_int (by decide +kernel) (pa_cons (pe_op op_add (pe_op op_add (pv 5) (pe_op op_mulA pe_int (pv 3))) pe_int) pa_nil)) pe_int))
      (pss_cons (ps_set (i := 5) sc__law_draw.nd rfl (Or.inl rfl) (pe_op op_mod (pe_callTy call_int1 (by rfl) T.z_int (by decide +kernel) (pa_cons (pe_op op_add (pe_op op_mulA (pv 5) (pe_op op_add (pv 5) pe_int)) (pe_op op_mulA pe_int (pv 3))) pa_nil)) pe_int))
      (pss_one (ps_ret (pe_op op_mod (pe_callTy call_int1 (by rfl) T.z_int (by decide +kernel) (pa_cons (pe_op op_fdivW (pe_op op_mod (pe_callTy call_int1 (by rfl) T.z_int (by decide +kernel) (pa_cons (pe_op op_add (pe_op op_mulA (pv 5) (pv 5)) (pe_op op_mulA pe_int (pv 5))) pa_nil)) pe_int) pe_int) pa_nil)) (pv 1))))))))))))), ?_⟩
      walk_at "go"
      refine w_dg h1 (pen_left _ _ _) ?_
      walk_at "go"
      refine w_ite (fun hc => ?_) (fun hc => ?_)
      · walk_at "go"
        refine w_dg h1 (pen_left _ _ _) ?_
        walk_at "go"
        refine w_dg h1 (pen_left _ _ _) ?_
        walk_at "go"
        refine w_dp h1 (pen_len _ _ _) ?_
        rw [pen_put_left]
        walk_at "go"
        exact fin _ _ a (l / many) (Int.emod_nonneg _ (by omega)) (Int.emod_lt_of_pos _ h0) upd_same ha0 (by omega) (Int.ediv_nonneg hl0 (by omega)) ButV.upd
      · walk_at "go"
        refine w_dg h1 (pen_at _ _ _) ?_
        walk_at "go"
        refine w_dp h1 (pen_len _ _ _) ?_
        rw [pen_put_at]
        obtain ⟨H1, k1, e1, e2, z1⟩ : ∃ H1, ButV d H H1 ∧ H1 d = some (.dK (pen c (a + 1) l)) ∧ H1 c = some (.lst (ns.map V.int)) ∧ upd H d (.dK (pen c (a + 1) l)) = H1 := ⟨_, ButV.upd, upd_same, by rw [upd_ne (ne_of h2 h1 (by intro z; cases z))]; exact h2, rfl⟩
        rw [z1]
        walk_at "go"
        refine w_dg e1 (pen_cells _ _ _) ?_
        walk_at "go"
        refine w_new (by assumption) (Nat.zero_le _) (fun p H2 np s2 hp => ?_)
        walk_at "go"
        refine w_neNil (s2 _ _ e2) hp ?_
        walk_at "go"
        have f1 := s2 _ _ e1
        have f2 := s2 _ _ e2
        have kk : ButV d H H2 := k1.same s2
        refine w_iteB (fun hc => ?yes) (fun hc => ?no)
        case' yes =>
          walk_at "go"
          refine w_dg f1 (pen_cells _ _ _) ?_
          walk_at "go"
          refine w_dg f1 (pen_cells _ _ _) ?_
          walk_at "go"
          refine w_lenL f2 ?_
          have h63 : 0 < ((ns.map V.int).length : Int) := by
            rw [List.length_map]
            cases ns with
            | nil => cases hc
            | cons x r => exact Int.natCast_pos.mpr (Nat.succ_pos _)
          walk_at "go"
          obtain ⟨z, hz⟩ := at_ints (ns := ns) (i := a % ((ns.map V.int).length : Int)) (Int.emod_nonneg _ (by omega)) (by
            have := Int.emod_lt_of_pos a h63
            rw [List.length_map] at this ⊢
            exact this)
          refine w_ixL f2 hz ?_
        all_goals
          walk_at "go"
          refine w_dg f1 (pen_cells _ _ _) ?_
          walk_at "go"
          refine w_lenL f2 ?_
          walk_at "go"
          refine w_ite (fun hd => ?_) (fun hd => ?_)
          · walk_at "go"
            refine w_ite (fun he => ?_) (fun he => ?_)
            · walk_at "go"
              refine w_dp f1 (pen_len _ _ _) ?_
              rw [pen_put_left]
              walk_at "go"
              refine fin _ _ (a + 1) _ (Int.emod_nonneg _ (by omega)) (Int.emod_lt_of_pos _ h0) upd_same (by omega) (by omega) (Int.ediv_nonneg ?_ (by omega)) (kk.trans ButV.upd)
              have e18 : (10 : Int) ^ (18 : Int).toNat = 1000000000000000000 := by decide
              rw [e18] at he ⊢
              omega
            · walk_at "go"
              exact fin _ _ (a + 1) l (Int.emod_nonneg _ (by omega)) (Int.emod_lt_of_pos _ h0) f1 (by omega) (by omega) hl0 kk
          · refine iteF ?_
            walk_at "go"
            exact fin _ _ (a + 1) l (Int.emod_nonneg _ (by omega)) (Int.emod_lt_of_pos _ h0) f1 (by omega) (by omega) hl0 kk
theorem ok__law_pen (T : Tx w K mg) : FnOk P w K mg base (L2.CX P w) 1 T.f__law_pen T.fd__law_pen ["_law_script"] (lSp (gK T) 1 vbegin) := by
  refine FnOk.cx (T.F__law_pen.ok sc__law_pen (fun vs H Q E h => h.len) (fun cdv A outer s H vs Q E hr h => ?_))
  obtain ⟨n, F, ts, Q0, xq, hlen, sub, rr, h, th, _⟩ := h
  match ts, h, rr with
  | [.scr ns], ⟨hl, q⟩, rr =>
    obtain ⟨v, rfl, r1⟩ := rr.one
    cases r1 with
    | scr hS =>
      have hu := hu_of hr
      have hu64 := hu64_of hr
      have hS := sqL_same sub.ob hS
      refine ⟨_, (pss_one (ps_ret (pe_disp (pps_cons pe_str (pe_callTy call_list_of (by rfl) T.z_list (by decide +kernel) (pa_cons (pe_slice sl_list (pv 0) po_none (po_some pe_int)) pa_nil)) (pps_cons pe_str pe_int (pps_cons pe_str pe_int pps_nil))) rfl rfl (by simp) (by decide)))), ?_⟩
      walk_at "go"
      refine w_disp (fun Q' eQ p H1 np s1 hp => ?_)
      walk_at "go"
      refine w_slL (s1.seq hS) (fun l2 H2 n2 s2 e2 => ?_)
      walk_at "go"
      obtain ⟨ms, em, lm⟩ := cut_ints ns none (some 63)
      rw [em] at e2
      refine ⟨l2, _, rfl, .inl (.inl (.inl e2)), fun l3 n3 => ?_⟩
      have s3 := same_upd (o := .lst (ms.map V.int)) n3
      have e3 : upd H2 l3 (.lst (ms.map V.int)) l3 = some (.lst (ms.map V.int)) := upd_same
      walk_at "go"
      have nl : H l3 = none := by
        cases z : H l3 with
        | none => rfl
        | some o => rw [s2 _ _ (s1 _ _ z)] at n3; cases n3
      have pl : p ≠ l3 := fun z => by rw [z] at hp; rw [s2 _ _ hp] at n3; cases n3
      generalize upd H2 l3 (.lst (ms.map V.int)) = H3 at *
      refine w_dend [(Sum.inr "cells", .ref l3), (Sum.inr "at", .int 0), (Sum.inr "left", .int 0)] eQ (s3 _ _ (s2 _ _ hp)) rfl (Nat.le_of_ble_eq_true rfl) (fun H4 k4 sm4 e4 => ?_)
      exact begin_end (H1 := H) th sub np nl pl (sm4 H ((s1.trans s2).trans s3) np) e4 (k4 _ _ e3 rfl) (by omega) (fun z => nomatch z) q
end
end K27
namespace K27
open PySem L2 DS VL MT NdefX
set_option pp.maxSteps 2000
local macro_rules | `(tactic| walk_at "v") => `(tactic| try dsimp only [vNext, vSeq, vBreak, vCont, vDrop, vRet, vRetN, vIfS, vSet, vFrz, frz, frzS, vSetOL, gNm, VL.gNil, VL.gCons, gTupN, vAsg, parQ, vPar, par3Q, vPar3, vFor, iLst, lstQ, VL.iTup, tupQ, VL.iRng1, rng1Q, VL.iRng2, rng2Q, vVar, vv, gt, vC, vOp, vUn, vI, vI0, vU, vEqS, isNonT, isNQ, vIsN, vbl, vIf, vAndV, vOrV, vNotV, vChain, vTest, vNot, vYes, vNo, vAnd, vOr, vNil, vCons, vTup, vLst, lkQ, fldC, vFldC, fldO, vFldO, vCall, methQ, vMeth, vMake, vBinII, vBinIZ, vNegOwn, vEqII, ends, endsI, oiQ, startT, startI, vCB, cInt, cAbs, c2I, cDivmod, cLen, cList, cTuple, cSum, cAll, cAny, cSorted, ixL, ixT, ixQ, oNone, oiQ2, oSome, slQ, vSlL, vCat, truT, truQ, vTru, augQ, augS, vAug, isBt, isQ, cIsB, isCQ, cIsC, isSeq, vIsSeq, vEqD, inSQ, vIn, appQ, vApp, setK, setQ, vSetI, popK, popQ, vPop, olQ, vLenO, vIxO, vTruO, fsQ, vFldS, putT, self2P, self2Q, vSelf2, vLc, wipeT, vNever, revQ, vRev, vParO, vRaise1, toldQ, vToldA, hide, hideS, vParO2, gSeqN, seqV, iSeqV, vLtT, ixoQ, vIndex, defQ, vCallL2, ixS, vToldM, ite_tt, ite_ft, List.set, List.map, List.length, List.append, List.replicate, List.drop, List.nil_append, List.cons_append, List.append_nil, Nat.sub_self, Nat.reduceSub, List.replicate_zero, List.replicate_succ, Nat.reduceAdd, Bool.not_true, Bool.not_false, brE_true, brE_false, brT_true, brT_false, brS_true, brS_false, Bt.nm, vdraw, vpick, vten, vbegin, sp_is_integer, sp_is_whole, sp_need_integer, sp_need_positive, sp_need_step, sp_need_items, sp_is_step, dealT, sp_common_factor, sp_Deal___init__, sp_need_deal, sp_met, sp_need_wants, sp_cost_at, sp_tried_shifts, sp_shift_cost, sp_best_shift, sp_free_shifts, sp__law_great, sp__law_sent, sp__law_cost, sp__law_step, sp__law_wants, sp__law_scaled, fl_Deal_houses, pt_Deal_houses, fl_Deal_block, pt_Deal_block, fq_Deal_1_0, fl_Deal_shift, pt_Deal_shift, fq_Deal_2_0, fq_Deal_2_1])
local macro_rules | `(tactic| walk_at "b") => `(tactic| first
  | with_reducible assumption
  | exact B.lit (k := 70) (by decide)
  | exact B.add (by walk_at "b") (by walk_at "b")
  | exact B.sub (by walk_at "b") (by walk_at "b")
  | exact B.neg (by walk_at "b")
  | exact B.mul (by walk_at "b") (by walk_at "b")
  | exact B.div (by walk_at "b")
  | exact B.mod (by walk_at "b") (by omega)
  | exact B.ite (by walk_at "b") (by walk_at "b")
  | exact B.ten _)
local macro_rules | `(tactic| walk_at "bb") => `(tactic| (with_reducible show B _ _; exact B.mono (by walk_at "b") (by first | decide | omega)))
local macro_rules | `(tactic| walk_at "sc") => `(tactic| first
  | with_reducible assumption
  | (with_reducible show (_ : Int) < 2 ^ 200; first | assumption | exact lt200 (by omega))
  | rfl
  | (show CMulA _ _; first | exact CMulA.s1 (by omega) (by omega) | exact CMulA.s2 (by omega) (by omega) | exact cmula (by walk_at "b") (by walk_at "b") (by first | decide | omega))
  | (show CDivW _ _; exact cdivw (by omega) (by walk_at "b") (by first | decide | omega))
  | (show CPow _ _; exact ⟨by decide, by decide, by decide⟩)
  | walk_at "bb"
  | omega
  | exact Nat.le_of_ble_eq_true rfl)
local macro_rules | `(tactic| walk_at "w") => `(tactic| (walk_at "v"; repeat ((first | refine And.intro (by walk_at "sc") ?_ | (with_reducible show Exists fun t => And (atI _ _ = some t) _; refine Exists.intro _ (And.intro rfl ?_))); walk_at "v")))

section
variable {P : Program} {w : World} {K : PySem.W.Frag} {mg : Str → Option Value} {base : Heap}
theorem atI_nat {α : Type} {us : List α} {d : Int} (h : d.toNat < us.length) (d0 : 0 ≤ d) : atI us d = some us[d.toNat] := by
  unfold atI ixN
  rw [if_pos d0, if_pos (by omega)]
  exact List.getElem?_eq_getElem h
theorem ok__law_pick (T : Tx w K mg) : FnOk PR w K mg base (L2.CX PR w) 2 T.f__law_pick T.fd__law_pick ["_law_pen_here", "_law_menu"] (lSp (gK T) 2 (vpick)) := by
  refine ok_v (fun _ l b => T.F__law_pick.okX sc__law_pick l b) rfl (fun cdv A outer s H E F0 xq hr => ?_)
  refine ⟨_, (vss_one (vs_ret (ve_ix iv_list (vpv 1) (ve_call (ok__law_draw T) (hr.mono (by decide)) (by rfl) T.g__law_draw T.F__law_draw.kp T.b__law_draw .nil (fun _ => .nil) hx_of (va_cons (vpv 0) (va_cons (ve_callB (cv_len rfl) (by rfl) T.z_len PySem.boot_len (va_cons (vpv 1) va_nil)) va_nil))) (fun _ _ => rfl)))), fun ts n Q hl h => ?_⟩
  match ts, h with
  | [.pen, .lst us], ⟨h0, h1, hn, h⟩ =>
    walk_at "w"
    intro d d0 d1
    have hd : d.toNat < us.length := by omega
    exact ⟨us[d.toNat], atI_nat hd d0, h _ (List.getElem_mem hd)⟩
theorem ok__law_great (T : Tx w K mg) : FnOk PR w K mg base (L2.CX PR w) 2 T.f__law_great T.fd__law_great ["_law_pen_here", "_law_figures"] (lSp (gK T) 2 (sp__law_great T)) := by
  refine ok_v (fun _ l b => T.F__law_great.okX sc__law_great l b) rfl (fun cdv A outer s H E F0 xq hr => ?_)
  refine ⟨_, (vss_cons (vs_set (i := 2) sc__law_great.nd rfl (Or.inl rfl) ve_int)
      (vss_cons (vs_for (vs := [3]) own_of rfl (vi_range1 (by rfl) T.z_range (va_cons (ve_op ov_add ve_int (ve_call (ok__law_draw T) (hr.mono (by decide)) (by rfl) T.g__law_draw T.F__law_draw.kp T.b__law_draw .nil (fun _ => .nil) hx_of (va_cons (vpv 0) (va_cons (ve_op ov_fdiv (vpv 1) ve_int) va_nil)))) va_nil)) (vg_name (i := 3) (by decide) sc__law_great.nd rfl (Or.inl rfl))
      (vss_one (vs_set (i := 2) sc__law_great.nd rfl (Or.inl rfl) (ve_op ov_add (ve_op ov_mul (vpv 2) (ve_op ov_pow ve_int ve_int)) (ve_call (ok__law_draw T) (hr.mono (by decide)) (by rfl) T.g__law_draw T.F__law_draw.kp T.b__law_draw .nil (fun _ => .nil) hx_of (va_cons (vpv 0) (va_cons (ve_op ov_pow ve_int ve_int) va_nil)))))))
      (vss_one (vs_ret (vpv 2))))), fun ts n Q hl h => ?_⟩
  match ts, h with
  | [.pen, .int f], ⟨f0, f1, hn, h⟩ =>
    walk_at "w"
    intro d d0 d1
    walk_at "w"
    refine for_inv (fun j n' ρ => n' ≤ n + 1 + j ∧ ∃ fd s, ρ = [.v .pen, .v (.int f), .v (.int fd), s] ∧ 0 ≤ fd ∧ fd < 10000000 ^ j) ⟨Nat.le_refl _, 0, _, rfl, by decide, by decide⟩ ?_ ?_
    · rintro j t n' ρ hj ⟨hn', fd, s, rfl, g0, g1⟩ K' hK
      obtain ⟨rfl, hj⟩ := rngT_get hj
      have p7 : (10 : Int) ^ (7 : Int).toNat = 10000000 := by decide
      have c1 : CMulA fd 10000000 := CMulA.s2 (by decide) (by decide)
      walk_at "w"
      rw [p7]
      walk_at "w"
      intro e e0 e1
      walk_at "w"
      refine hK _ _ ⟨by omega, _, _, rfl, by omega, ?_⟩
      rw [Int.pow_succ]
      omega
    · rintro n' ρ ⟨hn', fd, s, rfl, g0, g1⟩
      rw [rngT_len] at hn' g1
      walk_at "w"
      have e : (1 + d).toNat ≤ 4 := by omega
      have l : fd ≤ 10000000000000000000000000000 := by
        generalize (1 + d).toNat = t at *
        obtain rfl | rfl | rfl | rfl | rfl : t = 0 ∨ t = 1 ∨ t = 2 ∨ t = 3 ∨ t = 4 := by omega
        · exact Int.le_trans (Int.le_of_lt g1) (by decide)
        · exact Int.le_trans (Int.le_of_lt g1) (by decide)
        · exact Int.le_trans (Int.le_of_lt g1) (by decide)
        · exact Int.le_trans (Int.le_of_lt g1) (by decide)
        · exact Int.le_trans (Int.le_of_lt g1) (by decide)
      exact h fd n' g0 (B.mono (k := 94) (B.le (B.lit (by decide)) g0 l) (by decide)) (by omega)
theorem bh20 {b h : Int} (b0 : 0 < b) (b1 : b ≤ 5) (h0 : 0 < h) (h1 : h ≤ 4) : 0 < b * h ∧ b * h ≤ 20 := by
  refine ⟨Int.mul_pos b0 h0, ?_⟩
  have := Int.mul_le_mul b1 h1 (by omega) (by omega : (0 : Int) ≤ 5)
  omega
theorem ok__law_sent (T : Tx w K mg) : FnOk PR w K mg base (L2.CX PR w) 1 T.f__law_sent T.fd__law_sent ["_law_deal", "_law_want", "_law_step_here", "_law_shift"] (lSp (gK T) 4 (sp__law_sent T)) := by
  refine ok_v (fun _ l b => T.F__law_sent.okX sc__law_sent l b) rfl (fun cdv A outer s H E F0 xq hr => ?_)
  refine ⟨_, (vss_cons (vs_asg (vs := [4, 5, 6]) (vpv 0) (vg_tup rfl rfl (vgs_cons (vg_name (i := 4) (by decide) sc__law_sent.nd rfl (Or.inl rfl)) (vgs_cons (vg_name (i := 5) (by decide) sc__law_sent.nd rfl (Or.inl rfl)) (vgs_cons (vg_name (i := 6) (by decide) sc__law_sent.nd rfl (Or.inl rfl)) vgs_nil)))))
      (vss_cons (vs_set (i := 7) sc__law_sent.nd rfl (Or.inl rfl) ve_int)
      (vss_cons (vs_for (vs := [8]) own_of rfl (vi_range1 (by rfl) T.z_range (va_cons (ve_op ov_mul (vpv 4) (vpv 5)) va_nil)) (vg_name (i := 8) (by decide) sc__law_sent.nd rfl (Or.inl rfl))
      (vss_cons (vs_set (i := 9) sc__law_sent.nd rfl (Or.inl rfl) (ve_op ov_mod (ve_op ov_fdiv (ve_op ov_add (ve_op ov_add (ve_ix (iv_tup rfl) (vpv 1) ve_int (fun _ _ => rfl)) (ve_op ov_mul (vpv 2) (vpv 8))) (vpv 6)) (vpv 4)) (vpv 5)))
      (vss_cons (vs_set (i := 10) sc__law_sent.nd rfl (Or.inl rfl) (ve_op ov_mod (ve_op ov_fdiv (ve_op ov_add (ve_op ov_add (ve_ix (iv_tup rfl) (vpv 1) ve_int (fun _ _ => rfl)) (ve_op ov_mul (vpv 2) (vpv 8))) (vpv 3)) (vpv 4)) (vpv 5)))
      (vss_one (vs_set (i := 7) sc__law_sent.nd rfl (Or.inl rfl) (ve_op ov_add (vpv 7) (ve_callTy cv_int (by rfl) T.z_int (by decide +kernel) (va_cons (ve_cmp ov_neS (vpv 9) (vpv 10) (nomark _)) va_nil))))))))
      (vss_one (vs_ret (vpv 7)))))), fun ts n Q hl h => ?_⟩
  match ts, h with
  | [.tup [.int b, .int h', .int m], .tup [.int f, .int o, .int wt], .int st, .int sh], ⟨⟨b0, b1, h0, h1, m0, m1⟩, s0, s1, h⟩ =>
    obtain ⟨g0, g1⟩ := bh20 b0 b1 h0 h1
    walk_at "w"
    refine for_inv (fun j n' ρ => n' = n ∧ ∃ tot s8 s9 s10, tot = sm (fun k => dH b h' (f + m) (o + sh) st k) j ∧ ρ = [.v (.tup [.int b, .int h', .int m]), .v (.tup [.int f, .int o, .int wt]), .v (.int st), .v (.int sh), .v (.int b), .v (.int h'), .v (.int m), .v (.int tot), s8, s9, s10]) ⟨rfl, _, _, _, _, rfl, rfl⟩ ?_ ?_
    · rintro j t n' ρ hj ⟨rfl, tot, s8, s9, s10, e, rfl⟩ K' hK
      obtain ⟨rfl, hj⟩ := rngT_get hj
      have hB : B 30 b := B.small (by omega) (by omega)
      walk_at "w"
      refine hK _ _ ⟨rfl, _, _, _, _, ?_, rfl⟩
      rw [e]
      show _ = sm _ j + dH b h' (f + m) (o + sh) st (j : Nat)
      unfold dH
      rw [show f + st * (0 + (j : Int)) + m = f + m + st * (j : Nat) by rw [Int.zero_add]; omega, show o + st * (0 + (j : Int)) + sh = o + sh + st * (j : Nat) by rw [Int.zero_add]; omega]
      by_cases q : (f + m + st * (j : Nat)) / b % h' = (o + sh + st * (j : Nat)) / b % h'
      · rw [if_pos q, if_neg (by simp [q])]
      · rw [if_neg q, if_pos (by simp [q])]
    · rintro n' ρ ⟨rfl, tot, s8, s9, s10, e, rfl⟩
      rw [rngT_len] at e
      walk_at "w"
      rw [e]
      exact h
theorem ok__law_cost (T : Tx w K mg) : FnOk PR w K mg base (L2.CX PR w) 2 T.f__law_cost T.fd__law_cost ["_law_deal", "_law_step_here", "_law_wants_here", "_law_shift"] (lSp (gK T) 4 (sp__law_cost T)) := by
  refine ok_v (fun _ l b => T.F__law_cost.okX sc__law_cost l b) rfl (fun cdv A outer s H E F0 xq hr => ?_)
  refine ⟨_, (vss_one (vs_ret (ve_callB (cv_sum rfl) (by rfl) T.z_sum (by decide +kernel) (va_cons (ve_lc (own := [("_law_want", 4)]) rfl sc__law_cost.nd (vi_list rfl (vpv 2)) (blkOk_by (N := N__law_cost) (sc := defScope s__law_cost) (by decide +kernel)) (fun _ _ _ _ _ => (vg_name (i := 4) (by decide) sc__law_cost.nd rfl (Or.inl rfl))) (fun _ _ _ _ _ => vts_nil) (fun _ _ _ _ _ => (ve_op ov_mul (ve_ix (iv_tup rfl) (vpv 4) ve_int (fun _ _ => rfl)) (ve_call (ok__law_sent T) (hr.mono (by decide)) (by rfl) T.g__law_sent T.F__law_sent.kp T.b__law_sent .nil (fun _ => .nil) passes_no (va_cons (vpv 0) (va_cons (vpv 4) (va_cons (vpv 1) (va_cons (vpv 3) va_nil)))))))) va_nil)))), fun ts n Q hl h => ?_⟩
  match ts, h with
  | [.tup [.int b, .int h', .int m], .int st, .lst ts, .int sh], ⟨ok, s0, s1, l, hl', ow, h⟩ =>
    subst hl'
    walk_at "w"
    refine lc_rel (fun t (a : I3) => t = .tup [.int a.1, .int a.2.1, .int a.2.2]) (fun a => .int (a.2.2 * sent b h' m a st sh)) (RL.map (f := w3) (fun _ => rfl) l) (szl (by rw [List.length_map]; have := ow.len; omega)) ?_ ?_
    · rintro t ⟨f, o, wt⟩ ml rfl K1 k1
      have b2 := ow.a2 _ ml
      dsimp only at b2
      walk_at "w"
      exact k1
    · walk_at "w"
      exact ⟨l.map fun a => a.2.2 * sent b h' m a st sh, (by rw [List.map_map]; rfl), h⟩
theorem ok__law_step (T : Tx w K mg) : FnOk PR w K mg base (L2.CX PR w) 3 T.f__law_step T.fd__law_step ["_law_pen_here"] (lSp (gK T) 1 (sp__law_step T)) := by
  refine ok_v (fun _ l b => T.F__law_step.okX sc__law_step l b) rfl (fun cdv A outer s H E F0 xq hr => ?_)
  refine ⟨_, (vss_one (vs_ret (ve_call (ok__law_pick T) (hr.mono (by decide)) (by rfl) T.g__law_pick T.F__law_pick.kp T.b__law_pick .nil (fun _ => .nil) hx_of (va_cons (vpv 0) (va_cons (ve_lst (va_cons ve_int (va_cons ve_int (va_cons ve_int (va_cons ve_int (va_cons ve_int (va_cons ve_int (va_cons (ve_un VL.un_neg ve_int) (va_cons (ve_un VL.un_neg ve_int) (va_cons ve_int (va_cons ve_int va_nil))))))))))) va_nil))))), fun ts n Q hl h => ?_⟩
  match ts, h with
  | [.pen], ⟨hn, h⟩ =>
    walk_at "w"
    intro t ht
    have key : ∀ s : Int, s ∈ [1, 1, 2, 3, 4, 6, -1, -2, 5, 12] → s ≠ 0 ∧ -2 ≤ s ∧ s ≤ 12 := by decide
    obtain ⟨s, hs, rfl⟩ : ∃ s : Int, s ∈ [1, 1, 2, 3, 4, 6, -1, -2, 5, 12] ∧ Tr.int s = t := List.mem_map.mp (show t ∈ [1, 1, 2, 3, 4, 6, -1, -2, 5, 12].map Tr.int from ht)
    obtain ⟨k1, k2, k3⟩ := key s hs
    exact h s k1 k2 k3
theorem ok__law_scaled (T : Tx w K mg) : FnOk PR w K mg base (L2.CX PR w) 1 T.f__law_scaled T.fd__law_scaled ["_law_wants_here", "_law_times", "_law_steps"] (lSp (gK T) 3 (sp__law_scaled T)) := by
  refine ok_v (fun _ l b => T.F__law_scaled.okX sc__law_scaled l b) rfl (fun cdv A outer s H E F0 xq hr => ?_)
  refine ⟨_, (vss_one (vs_ret (ve_lc (own := [("_law_want", 3)]) rfl sc__law_scaled.nd (vi_list rfl (vpv 0)) (blkOk_by (N := N__law_scaled) (sc := defScope s__law_scaled) (by decide +kernel)) (fun _ _ _ _ _ => (vg_name (i := 3) (by decide) sc__law_scaled.nd rfl (Or.inl rfl))) (fun _ _ _ _ _ => vts_nil) (fun _ _ _ _ _ => (ve_tup (va_cons (ve_op ov_mul (ve_ix (iv_tup rfl) (vpv 3) ve_int (fun _ _ => rfl)) (vpv 1)) (va_cons (ve_op ov_mul (ve_ix (iv_tup rfl) (vpv 3) ve_int (fun _ _ => rfl)) (vpv 1)) (va_cons (ve_ifExp (vt_val (vpv 2)) (ve_op ov_mul (ve_ix (iv_tup rfl) (vpv 3) ve_int (fun _ _ => rfl)) (vpv 1)) (ve_ix (iv_tup rfl) (vpv 3) ve_int (fun _ _ => rfl))) va_nil)))))))), fun ts n Q hl h => ?_⟩
  match ts, h with
  | [.lst ts, .int c, .bl bo], ⟨l, hl', ow, h⟩ =>
    subst hl'
    walk_at "w"
    refine lc_rel (fun t (a : I3) => t = .tup [.int a.1, .int a.2.1, .int a.2.2]) (fun a => w3 (scl c bo a)) (RL.map (f := w3) (fun _ => rfl) l) (szl (by rw [List.length_map]; have := ow.len; omega)) ?_ ?_
    · rintro t ⟨f, o, wt⟩ ml rfl K1 k1
      have a0 := ow.a0 _ ml
      have a1 := ow.a1 _ ml
      have a2 := ow.a2 _ ml
      unfold scl w3 at k1
      dsimp only at k1 a0 a1 a2
      walk_at "w"
      refine brE_b (fun z => ?_) (fun z => ?_)
      · rw [if_pos z] at k1
        walk_at "w"
        exact k1
      · rw [if_neg (by rw [z]; decide)] at k1
        walk_at "w"
        exact k1
    · rw [List.map_map] at h
      exact h
theorem ok__law_wants (T : Tx w K mg) : FnOk PR w K mg base (L2.CX PR w) 4 T.f__law_wants T.fd__law_wants ["_law_pen_here", "_law_last"] (lSp (gK T) 2 (sp__law_wants T)) := by
  refine ok_v (fun _ l b => T.F__law_wants.okX sc__law_wants l b) rfl (fun cdv A outer s H E F0 xq hr => ?_)
  refine ⟨_, (vss_cons (vs_setOL (i := 2) (pos' := ⟨0, 0, 0, 0⟩) sc__law_wants.nd rfl (Or.inl rfl) va_nil)
      (vss_cons (vs_for (vs := [3]) own_of rfl (vi_range1 (by rfl) T.z_range (va_cons (ve_op ov_add ve_int (ve_call (ok__law_draw T) (hr.mono (by decide)) (by rfl) T.g__law_draw T.F__law_draw.kp T.b__law_draw .nil (fun _ => .nil) hx_of (va_cons (vpv 0) (va_cons ve_int va_nil)))) va_nil)) (vg_name (i := 3) (by decide) sc__law_wants.nd rfl (Or.inl rfl))
      (vss_cons (vs_set (i := 4) sc__law_wants.nd rfl (Or.inl rfl) (ve_op ov_sub (ve_call (ok__law_draw T) (hr.mono (by decide)) (by rfl) T.g__law_draw T.F__law_draw.kp T.b__law_draw .nil (fun _ => .nil) hx_of (va_cons (vpv 0) (va_cons ve_int va_nil))) ve_int))
      (vss_cons (vs_set (i := 5) sc__law_wants.nd rfl (Or.inl rfl) (ve_ifExp (vt_cmp ov_eqS (ve_call (ok__law_draw T) (hr.mono (by decide)) (by rfl) T.g__law_draw T.F__law_draw.kp T.b__law_draw .nil (fun _ => .nil) hx_of (va_cons (vpv 0) (va_cons ve_int va_nil))) ve_int (nomark _)) (ve_op ov_sub (ve_op ov_add (vpv 4) (ve_call (ok__law_draw T) (hr.mono (by decide)) (by rfl) T.g__law_draw T.F__law_draw.kp T.b__law_draw .nil (fun _ => .nil) hx_of (va_cons (vpv 0) (va_cons ve_int va_nil)))) ve_int) (ve_op ov_sub (ve_call (ok__law_draw T) (hr.mono (by decide)) (by rfl) T.g__law_draw T.F__law_draw.kp T.b__law_draw .nil (fun _ => .nil) hx_of (va_cons (vpv 0) (va_cons ve_int va_nil))) ve_int)))
      (vss_one (vs_app (i := 2) (ps_expr (pe_bm PySem.F.plainAttrs_list PySem.F.slot_list_append PySem.F.type_list_append mt_append (pv 2) (pa_cons (ve_tup (va_cons (vpv 4) (va_cons (vpv 5) (va_cons (ve_ifExp (vt_cmp ov_eqS (vpv 1) ve_str (nomark _)) (ve_call (ok__law_step T) (hr.mono (by decide)) (by rfl) T.g__law_step T.F__law_step.kp T.b__law_step .nil (fun _ => .nil) hx_of (va_cons (vpv 0) va_nil)) (ve_call (ok__law_draw T) (hr.mono (by decide)) (by rfl) T.g__law_draw T.F__law_draw.kp T.b__law_draw .nil (fun _ => .nil) hx_of (va_cons (vpv 0) (va_cons ve_int va_nil)))) va_nil)))) pa_nil))))))))
      (vss_frz 2 (vss_one (vs_ret (vpv 2)))))), fun ts n Q hl h => ?_⟩
  match ts, h with
  | [.pen, .str x], ⟨hn, h⟩ =>
    walk_at "w"
    intro d d0 d1
    refine ⟨⟨by omega, by omega⟩, ?_⟩
    have key : ∀ (l : List I3) (a : I3), (∀ a ∈ l, (-15 ≤ a.1 ∧ a.1 ≤ 14) ∧ (-19 ≤ a.2.1 ∧ a.2.1 ≤ 18) ∧ (-2 ≤ a.2.2 ∧ a.2.2 ≤ 12) ∧ if x = "step" then a.2.2 ≠ 0 else 0 ≤ a.2.2) → ((-15 ≤ a.1 ∧ a.1 ≤ 14) ∧ (-19 ≤ a.2.1 ∧ a.2.1 ≤ 18) ∧ (-2 ≤ a.2.2 ∧ a.2.2 ≤ 12) ∧ if x = "step" then a.2.2 ≠ 0 else 0 ≤ a.2.2) → ∀ b ∈ l ++ [a], (-15 ≤ b.1 ∧ b.1 ≤ 14) ∧ (-19 ≤ b.2.1 ∧ b.2.1 ≤ 18) ∧ (-2 ≤ b.2.2 ∧ b.2.2 ≤ 12) ∧ if x = "step" then b.2.2 ≠ 0 else 0 ≤ b.2.2 := fun l a h1 h2 b hb => by
      rcases List.mem_append.mp hb with hb | hb
      · exact h1 b hb
      · rw [List.mem_singleton.mp hb]; exact h2
    refine for_inv (fun j n' ρ => n' ≤ n + 1 + 4 * j ∧ j ≤ 3 ∧ ∃ l s3 s4 s5, l.length = j ∧ (∀ a ∈ l, (-15 ≤ a.1 ∧ a.1 ≤ 14) ∧ (-19 ≤ a.2.1 ∧ a.2.1 ≤ 18) ∧ (-2 ≤ a.2.2 ∧ a.2.2 ≤ 12) ∧ if x = "step" then a.2.2 ≠ 0 else 0 ≤ a.2.2) ∧ ρ = [.v .pen, .v (.str x), .ol (l.map w3), s3, s4, s5]) ⟨Nat.le_refl _, by omega, [], _, _, _, rfl, (fun _ m => nomatch m), rfl⟩ ?_ ?_
    · rintro j t n' ρ hj ⟨hn', hj3, l, s3, s4, s5, hl, hb, rfl⟩ K' hK
      obtain ⟨rfl, hj⟩ := rngT_get hj
      have lenl : (l.map w3).length < sizeLine := szlt (by rw [List.length_map]; omega)
      walk_at "w"
      intro f f0 f1
      walk_at "w"
      intro e e0 e1
      walk_at "w"
      have more : ∀ (o : Int) (n2 : Nat), -19 ≤ o → o ≤ 18 → n2 ≤ n' + 3 → (∀ wt : Int, -2 ≤ wt → wt ≤ 12 → (if x = "step" then wt ≠ 0 else 0 ≤ wt) → K' (n2 + 1) [.v .pen, .v (.str x), .ol (l.map w3 ++ [.tup [.int (f - 15), .int o, .int wt]]), .v (.int (0 + (j : Int))), .v (.int (f - 15)), .v (.int o)]) := fun o n2 o0 o1 hn2 wt w0 w1 wx =>
        hK _ _ ⟨by omega, by omega, l ++ [(f - 15, o, wt)], _, _, _, by simp [hl], key l _ hb ⟨⟨by omega, by omega⟩, ⟨by omega, by omega⟩, ⟨by omega, by omega⟩, wx⟩, by rw [List.map_append]; rfl⟩
      refine brE_d (fun z => ?_) (fun z => ?_)
      all_goals
        walk_at "w"
        intro g g0' g1'
        walk_at "w"
        refine brE_d (fun zz => ?_) (fun zz => ?_)
        · walk_at "w"
          intro wt k1 k2 k3
          walk_at "w"
          exact more _ _ (by omega) (by omega) (by omega) wt k2 k3 (by rw [if_pos zz]; exact k1)
        · walk_at "w"
          intro wt k1 k2
          walk_at "w"
          exact more _ _ (by omega) (by omega) (by omega) wt (by omega) (by omega) (by rw [if_neg zz]; exact k1)
    · rintro n' ρ ⟨hn', hj3, l, s3, s4, s5, hl, hb, rfl⟩
      rw [rngT_len] at hn' hj3 hl
      walk_at "w"
      exact h l n' ⟨by omega, (by intro z; rw [z] at hl; simp at hl; omega), fun a m => (hb a m).1, fun a m => (hb a m).2.1, fun a m => (hb a m).2.2.1⟩ (fun a m => (hb a m).2.2.2) (by omega)
end
end K27
namespace K27
open PySem L2 DS VL MT NdefX
set_option pp.maxSteps 1200
local macro_rules | `(tactic| walk_at "c") => `(tactic| first
  | (dsimp only; omega)
  | omega
  | (show CMulA _ _; first | exact CMulA.s1 (by omega) (by omega) | exact CMulA.s2 (by omega) (by omega))
  | (show CDivW _ _; first | exact ⟨by omega, by assumption⟩ | exact ⟨by omega, by decide⟩)
  | (show CPow _ _; exact ⟨by decide, by decide, by decide⟩)
  | assumption)
local macro_rules | `(tactic| walk_at "get") => `(tactic| first
  | assumption
  | (refine (by assumption : Same _ _) _ _ ?_; walk_at "get")
  | (refine (by assumption : Keep _ _) _ _ ?_ rfl; walk_at "get"))
local macro_rules | `(tactic| walk_at "pen") => `(tactic| first
  | assumption
  | (refine Pen.same (by assumption) ?_; walk_at "pen")
  | (refine Pen.mono ?_ (by omega); assumption))
local macro_rules | `(tactic| walk_at "keep") => `(tactic| first
  | assumption
  | exact Keep.refl _
  | exact Keep.of (by assumption)
  | (refine Keep.trans ?_ (by assumption); walk_at "keep")
  | (refine Keep.same ?_ (by assumption); walk_at "keep"))
local macro_rules | `(tactic| walk_at "same") => `(tactic| first
  | assumption
  | exact Same.refl _
  | (refine Same.trans ?_ (by assumption); walk_at "same"))
local macro_rules | `(tactic| walk_at "s0") => `(tactic| first
  | with_reducible refine w_seq ?_
  | with_reducible refine w_asg ?_
  | with_reducible refine w_name ?_
  | ((with_reducible apply w_var); exact rfl)
  | with_reducible refine w_c ?_
  | with_reducible refine w_op ?_
  | with_reducible refine w_I0 ?_
  | ((with_reducible apply w_I); (walk_at "c"))
  | with_reducible refine w_cons ?_
  | with_reducible refine w_nil ?_
  | with_reducible refine w_cb ?_
  | with_reducible refine w_int1 ?_
  | with_reducible refine w_int1b ?_
  | with_reducible refine w_call ?_
  | with_reducible refine w_test ?_
  | with_reducible refine w_k ?_
  | with_reducible refine w_ret ?_
  | with_reducible refine w_drop ?_
  | with_reducible refine w_not ?_
  | with_reducible refine w_and ?_
  | with_reducible refine w_or ?_
  | with_reducible refine w_andV ?_
  | with_reducible refine w_orV ?_
  | with_reducible refine w_notV ?_
  | with_reducible refine w_if ?_
  | with_reducible refine w_B ?_
  | with_reducible refine w_un ?_
  | with_reducible refine w_U ?_
  | (with_reducible refine w_tup ?_; intro _ _)
  | (with_reducible refine w_lst ?_; intro _ _)
  | with_reducible refine w_dget ?_
  | with_reducible refine w_dput ?_
  | with_reducible refine w_fld ?_
  | with_reducible refine w_meth ?_
  | (with_reducible refine w_make ?_; intro _ _)
  | with_reducible refine w_par ?_
  | with_reducible refine w_par3 ?_
  | with_reducible refine w_two ?_
  | with_reducible refine w_three ?_
  | with_reducible refine w_one ?_
  | with_reducible refine w_chain ?_
  | with_reducible refine w_next ?_
  | with_reducible refine w_brk ?_
  | with_reducible refine w_cont ?_
  | with_reducible refine w_retN ?_
  | with_reducible refine w_gcons ?_
  | with_reducible refine w_gnil ?_
  | ((with_reducible refine w_eq ?_ ?_); exact rfl)
  | ((with_reducible refine w_ne ?_ ?_); exact rfl)
  | with_reducible refine w_part ?_
  | with_reducible refine w_lc ?_
  | with_reducible refine w_bm ?_
  | with_reducible refine w_lcS ?_
  | with_reducible refine w_yes ?_
  | with_reducible refine w_iTup ?_
  | with_reducible refine w_iList ?_
  | with_reducible refine w_unT ?_
  | with_reducible refine w_unT0 ?_
  | with_reducible refine w_unL ?_
  | with_reducible refine w_unL0 ?_
  | ((with_reducible apply w_gtup); (walk_at "get"); (exact rfl))
  | with_reducible refine w_gfld ?_
  | with_reducible refine w_sfld ?_
  | with_reducible refine w_risi ?_
  | with_reducible refine w_i ?_
  | with_reducible refine w_pnil ?_
  | with_reducible refine w_pcons ?_
  | with_reducible refine w_sl ?_
  | with_reducible refine w_nopart ?_
  | with_reducible refine w_for ?_
  | with_reducible refine w_while ?_
  | with_reducible refine w_irng1 ?_
  | with_reducible refine w_irng2 ?_
  | with_reducible refine And.intro (rfl : V.non = V.non) ?_)
local macro_rules | `(tactic| walk_at "s") => `(tactic| first | walk_at "s0" | with_reducible refine w_ifs ?_)
local macro_rules | `(tactic| walk_at "go") => `(tactic| repeat (walk_at "s"))
local macro_rules | `(tactic| walk_at "gi") => `(tactic| repeat (walk_at "s0"))

section
abbrev toldA {w : World} {K : PySem.W.Frag} {mg : Str → Option Value} (T : Tx w K mg) : List (Addr × List AI) := [(T.C_BadValue, [.s "value", .f "value"])]
theorem gives__law_told {w : World} {K : PySem.W.Frag} {mg : Str → Option Value} (T : Tx w K mg) {CX : CXT} {P : Program} {base : Heap} {N : List Str} {qq : Str} {sc : Scope} {f0 : Addr} {cd : Value} {A0 : Around} {o0 : List Env} {s0 : Shared} {H0 : Hp} {E0 : XK} {q : Str} {cdv : Value} : LamX.GivesTo (cxOf CX P w K mg base N qq sc f0 cd A0 o0 s0 H0 E0) N__law_told "_law_told" (defScope s__law_told) T.f__law_told cdv (defBody s__law_told) "_law_call" q (TTm (toldA T)) := by
  intro f c' s H Q tl act hc h
  refine ⟨_, pss_cons (ps_set (i := 1) sc__law_told.nd rfl (.inl rfl) (pe_tup pa_nil)) (pss_cons (ps_try_as (X := (cxOf C8.CX0 P w K mg base N__law_told "_law_told" (defScope s__law_told) T.f__law_told cdv (cxOf CX P w K mg base N qq sc f0 cd A0 o0 s0 H0 E0).A (cxOf CX P w K mg base N qq sc f0 cd A0 o0 s0 H0 E0).stack s H C8.E0).nox) (i := 2) (c := .ref T.C_BadValue)
      (tb := fun W D σ H => ∃ Ech : XK, (∀ cls d σ' H', Ech cls d H' → σ'.length = 3 → W cls d σ' H') ∧ σ[0]? = some (some (.ref f)) ∧ H c' = some (LamX.CodeO c' q) ∧ tl Ech H (fun _ H' => D.nx σ H')) rfl rfl sc__law_told.nd rfl rfl ⟨rfl, rfl, .inl T.gC_BadValue⟩ takes0 (fun W pn xe tk _ => ?_)
      (fun a oe cls d pn hz hf => pss_one (ps_set (i := 1) sc__law_told.nd rfl (.inl rfl) (pe_tup (pa_cons pe_str (pa_cons (pe_xf (C := T.C_BadValue) T.xf_BadValue T.X_BadValue.nof hz hf (pv 2)) pa_nil)))))) (pss_one (ps_ret (pv 1)))), ?_⟩
  · refine ⟨fun pins s' σ H' D I h' => ?_⟩
    obtain ⟨Ech, hW, h1, h2, h3⟩ := h'
    exact (pss_one (ps_expr (act _ pn xe Ech _ _ (takes_len tk) (fun cls d σ' H' e l => hW cls d σ' H' e l)))).run pins s' σ H' D I ⟨h1, h2, h3⟩
  · refine ⟨Nat.zero_le _, fun p0 n0 => ?_⟩
    refine ⟨fun cls d H' => ∃ C its fvs vs, (C, its) ∈ toldA T ∧ cls = .ref C ∧ XAt H' d fvs ∧ Its V.str fvs its vs ∧ ∀ p, H' p = none → Q (.ref p) (upd H' p (.tup vs)), ?_, rfl, ?_, ?_⟩
    · rintro cls d σ' H' ⟨C, its, fvs, vs, hm, rfl, xa, it, hq⟩ hl
      cases List.mem_singleton.mp hm
      cases it with
      | s it => cases it with
        | f hv it => cases it with
          | nil =>
            refine ⟨true, T.em_BadValue, fun _ a na => ?_, fun z => nomatch z⟩
            obtain ⟨x, y, z, rfl⟩ : ∃ x y z, σ' = [x, y, z] := by
              match σ', hl with
              | [x, y, z], _ => exact ⟨x, y, z, rfl⟩
            cases d with
            | none => cases (show fvs = [] from xa); cases hv
            | some dd => exact ⟨_, rfl, rfl, rfl, dd, fvs, _, rfl, xa, hv, Nat.le_of_ble_eq_true rfl, fun p np => ⟨_, rfl, hq p np⟩⟩
    · rw [upd_ne (ne_of_none hc n0)]
      exact hc
    · have e := h p0 n0
      refine cast (congrArg (tl _ _) ?_) e
      funext x H'
      exact propext ⟨fun q => ⟨_, rfl, q⟩, fun ⟨v, e, q⟩ => by cases e; exact q⟩
end
end K27
namespace K27
open PySem L2 DS VL MT NdefX
set_option pp.maxSteps 2000
local macro_rules | `(tactic| walk_at "v") => `(tactic| try dsimp only [vNext, vSeq, vBreak, vCont, vDrop, vRet, vRetN, vIfS, vSet, vFrz, frz, frzS, vSetOL, gNm, VL.gNil, VL.gCons, gTupN, vAsg, parQ, vPar, par3Q, vPar3, vFor, iLst, lstQ, VL.iTup, tupQ, VL.iRng1, rng1Q, VL.iRng2, rng2Q, vVar, vv, gt, vC, vOp, vUn, vI, vI0, vU, vEqS, isNonT, isNQ, vIsN, vbl, vIf, vAndV, vOrV, vNotV, vChain, vTest, vNot, vYes, vNo, vAnd, vOr, vNil, vCons, vTup, vLst, lkQ, fldC, vFldC, fldO, vFldO, vCall, methQ, vMeth, vMake, vBinII, vBinIZ, vNegOwn, vEqII, ends, endsI, oiQ, startT, startI, vCB, cInt, cAbs, c2I, cDivmod, cLen, cList, cTuple, cSum, cAll, cAny, cSorted, ixL, ixT, ixQ, oNone, oiQ2, oSome, slQ, vSlL, vCat, truT, truQ, vTru, augQ, augS, vAug, isBt, isQ, cIsB, isCQ, cIsC, isSeq, vIsSeq, vEqD, inSQ, vIn, appQ, vApp, setK, setQ, vSetI, popK, popQ, vPop, olQ, vLenO, vIxO, vTruO, fsQ, vFldS, putT, self2P, self2Q, vSelf2, vLc, wipeT, vNever, revQ, vRev, vParO, vRaise1, toldQ, vToldA, hide, hideS, vParO2, gSeqN, seqV, iSeqV, vLtT, ixoQ, vIndex, defQ, vCallL2, ixS, vToldM, ite_tt, ite_ft, List.set, List.map, List.length, List.append, List.replicate, List.drop, List.nil_append, List.cons_append, List.append_nil, Nat.sub_self, Nat.reduceSub, List.replicate_zero, List.replicate_succ, Nat.reduceAdd, Bool.not_true, Bool.not_false, brE_true, brE_false, brT_true, brT_false, brS_true, brS_false, Bt.nm, vdraw, vpick, vten, vbegin, sp_is_integer, sp_is_whole, sp_need_integer, sp_need_positive, sp_need_step, sp_need_items, sp_is_step, dealT, sp_common_factor, sp_Deal___init__, sp_need_deal, sp_met, sp_need_wants, sp_cost_at, sp_tried_shifts, sp_shift_cost, sp_best_shift, sp_free_shifts, sp__law_great, sp__law_sent, sp__law_cost, sp__law_step, sp__law_wants, sp__law_scaled, sp__law_refused_right, sp__law_free_right, sp__law_best_right, fl_Deal_houses, pt_Deal_houses, fl_Deal_block, pt_Deal_block, fq_Deal_1_0, fl_Deal_shift, pt_Deal_shift, fq_Deal_2_0, fq_Deal_2_1])
local macro_rules | `(tactic| walk_at "b") => `(tactic| first
  | with_reducible assumption
  | exact B.lit (k := 70) (by decide)
  | exact B.add (by walk_at "b") (by walk_at "b")
  | exact B.sub (by walk_at "b") (by walk_at "b")
  | exact B.neg (by walk_at "b")
  | exact B.mul (by walk_at "b") (by walk_at "b")
  | exact B.div (by walk_at "b")
  | exact B.mod (by walk_at "b") (by omega)
  | exact B.ite (by walk_at "b") (by walk_at "b")
  | exact B.ten _)
local macro_rules | `(tactic| walk_at "bb") => `(tactic| (with_reducible show B _ _; exact B.mono (by walk_at "b") (by first | decide | omega)))
local macro_rules | `(tactic| walk_at "sc") => `(tactic| first
  | with_reducible assumption
  | (with_reducible show (_ : Int) < 2 ^ 200; first | assumption | exact lt200 (by omega))
  | rfl
  | (show CMulA _ _; first | exact CMulA.s1 (by omega) (by omega) | exact CMulA.s2 (by omega) (by omega) | exact cmula (by walk_at "b") (by walk_at "b") (by first | decide | omega))
  | (show CDivW _ _; exact cdivw (by omega) (by walk_at "b") (by first | decide | omega))
  | (show CPow _ _; exact ⟨by decide, by decide, by decide⟩)
  | walk_at "bb"
  | omega
  | exact Nat.le_of_ble_eq_true rfl)
local macro_rules | `(tactic| walk_at "w") => `(tactic| (walk_at "v"; repeat ((first | refine And.intro (by walk_at "sc") ?_ | (with_reducible show Exists fun t => And (atI _ _ = some t) _; refine Exists.intro _ (And.intro rfl ?_))); walk_at "v")))

section
variable {P : Program} {w : World} {K : PySem.W.Frag} {mg : Str → Option Value} {base : Heap}
abbrev tv (t : Tr) : Tr := .tup [.str "value", t]
theorem eqT_refl {t : Tr} (h : okD t) : eqT t t = true := SeqAt.eqv_refl _ (SeqAt.canLay_of_shaped h.2)
theorem bad_of {T : Tx w K mg} {x : XQ} {n : Nat} {v : Tr} (h : x T.C_BadValue [("value", v)] n) : badX T x n v := h
theorem okQ_F {o : Option Bool} {y z : Prop} (e : o = some false) (h : z) : okQ o y z := by rw [e]; exact h
theorem deal_T {T : Tx w K mg} {b h s : Int} {A z : Prop} (a : A) : okQ (isDlT (dealT T b h s)) ((∃ b' h' s', dealT T b h s = dealT T b' h' s') ∧ A) z := ⟨⟨_, _, _, rfl⟩, a⟩
theorem wants_it {p : Tr → Option Bool} {t : Tr} {y : Prop} {z : Tr → Prop} (h : isItT t = some false) (q : z t) : wantsS p t y z := okQ_F h q
theorem wants_l {p : Tr → Option Bool} {ts : List Tr} {y : Prop} {z : Tr → Prop} (q : wantsQ p (okQ (some (decide (ts ≠ []))) y (z (.lst ts))) z ts) : wantsS p (.lst ts) y z := fun us e => by
  rcases e with e | e
  · cases e; exact q
  · cases e
theorem wantsQ_T {p : Tr → Option Bool} {t : Tr} {ts : List Tr} {y : Prop} {z : Tr → Prop} (e : wantB p t = some true) (q : wantsQ p y z ts) : wantsQ p y z (t :: ts) := okQ_T e q
theorem wantsQ_F {p : Tr → Option Bool} {t : Tr} {ts : List Tr} {y : Prop} {z : Tr → Prop} (e : wantB p t = some false) (q : z t) : wantsQ p y z (t :: ts) := okQ_F e q
theorem odd_ok {t : Tr} (h : t ∈ [.non, .int 5, .tup [.int 2, .int 3], .str "a"]) : isDlT t = some false ∧ okD (tv t) := by
  simp only [List.mem_cons, List.not_mem_nil, or_false] at h
  rcases h with rfl | rfl | rfl | rfl <;> exact ⟨rfl, rfl, by decide +kernel⟩
theorem wry_ok {t : Tr} (h : t ∈ [.int 0, .non, .bl true, .str "1"]) : isStpT t = some false ∧ okD (tv t) ∧ okD (tv (.tup [.int 0, .int 1, t])) := by
  simp only [List.mem_cons, List.not_mem_nil, or_false] at h
  rcases h with rfl | rfl | rfl | rfl <;> exact ⟨rfl, ⟨rfl, by decide +kernel⟩, rfl, by decide +kernel⟩
theorem bent_ok {t : Tr} (h : t ∈ [.tup [.int 1, .int 2], .tup [.non, .int 1, .int 1], .tup [.int 1, .bl true, .int 1], .int 5, .non, .tup [.int 1, .int 2, .int 3, .int 4], .tup [.int 1, .str "2", .int 3], .lst [.int 1, .int 2]]) : wantB isStpT t = some false ∧ wantB isWhT t = some false ∧ okD (tv t) := by
  simp only [List.mem_cons, List.not_mem_nil, or_false] at h
  rcases h with rfl | rfl | rfl | rfl | rfl | rfl | rfl | rfl <;> exact ⟨rfl, rfl, rfl, by decide +kernel⟩
theorem lone_ok {t : Tr} (h : t ∈ [.non, .int 7, .str "ab"]) : isItT t = some false ∧ okD (tv t) := by
  simp only [List.mem_cons, List.not_mem_nil, or_false] at h
  rcases h with rfl | rfl | rfl <;> exact ⟨rfl, rfl, by decide +kernel⟩
theorem heavy_ok {t : Tr} (h : t ∈ [.int (-1), .non, .bl true, .str "1"]) : isWhT t = some false ∧ okD (tv (.tup [.int 0, .int 1, t])) := by
  simp only [List.mem_cons, List.not_mem_nil, or_false] at h
  rcases h with rfl | rfl | rfl | rfl <;> exact ⟨rfl, rfl, by decide +kernel⟩
theorem strange_ok {t : Tr} (h : t ∈ [.non, .bl true, .str "0", .tup [.int 1]]) : isIntT t = some false ∧ okD (tv t) := by
  simp only [List.mem_cons, List.not_mem_nil, or_false] at h
  rcases h with rfl | rfl | rfl | rfl <;> exact ⟨rfl, rfl, by decide +kernel⟩
theorem ok__law_refused_right (T : Tx w K mg) (TB : LamX.TabB base mg T.c__law_refused_right T.P__law_refused_right) : FnOk PR w K mg base (L2.CX PR w) 9 T.f__law_refused_right T.fd__law_refused_right ["_law_pen_here"] (lSp (gK T) 1 (sp__law_refused_right T)) := by
  obtain ⟨oc, od, kV, doc, pm, an, ct, osl, e, lk, hcd⟩ := T.FC__law_refused_right
  refine ok_vC e lk hcd sc__law_refused_right rfl (fun A outer s H E F0 xq hr => ?_)
  refine ⟨_, (vss_cons (vs_asg (vs := [3, 8]) (ve_tup (va_cons (ve_make T.oc_Deal T.M_Deal (ok_Deal___init__ T) (hr.mono (by decide)) (by rfl) T.gC_Deal T.bd_Deal___init__ T.dv_Deal___init__ (fun _ => .cons (.int 0) (.nil)) hx_of (va_cons (ve_op ov_add ve_int (ve_call (ok__law_draw T) (hr.mono (by decide)) (by rfl) T.g__law_draw T.F__law_draw.kp T.b__law_draw .nil (fun _ => .nil) hx_of (va_cons (vpv 0) (va_cons ve_int va_nil)))) (va_cons ve_int va_nil))) (va_cons (ve_lst (va_cons (ve_tup (va_cons ve_int (va_cons ve_int (va_cons ve_int va_nil)))) va_nil)) va_nil))) (vg_tup (m := 2) rfl rfl (vgs_cons (vg_name (i := 3) (by decide) sc__law_refused_right.nd rfl (Or.inr rfl)) (vgs_cons (vg_name (i := 8) (by decide) sc__law_refused_right.nd rfl (Or.inr rfl)) vgs_nil))))
      (vss_cons (vs_asg (vs := [6, 9]) (ve_tup (va_cons (ve_call (ok__law_pick T) (hr.mono (by decide)) (by rfl) T.g__law_pick T.F__law_pick.kp T.b__law_pick .nil (fun _ => .nil) hx_of (va_cons (vpv 0) (va_cons (ve_lst (va_cons ve_non (va_cons ve_int (va_cons (ve_tup (va_cons ve_int (va_cons ve_int va_nil))) (va_cons ve_str va_nil))))) va_nil))) (va_cons (ve_call (ok__law_pick T) (hr.mono (by decide)) (by rfl) T.g__law_pick T.F__law_pick.kp T.b__law_pick .nil (fun _ => .nil) hx_of (va_cons (vpv 0) (va_cons (ve_lst (va_cons ve_int (va_cons ve_non (va_cons ve_bl (va_cons ve_str va_nil))))) va_nil))) va_nil))) (vg_tup (m := 2) rfl rfl (vgs_cons (vg_name (i := 6) (by decide) sc__law_refused_right.nd rfl (Or.inr rfl)) (vgs_cons (vg_name (i := 9) (by decide) sc__law_refused_right.nd rfl (Or.inr rfl)) vgs_nil))))
      (vss_cons (vs_set (i := 2) sc__law_refused_right.nd rfl (Or.inr rfl) (ve_call (ok__law_pick T) (hr.mono (by decide)) (by rfl) T.g__law_pick T.F__law_pick.kp T.b__law_pick .nil (fun _ => .nil) hx_of (va_cons (vpv 0) (va_cons (ve_lst (va_cons (ve_tup (va_cons ve_int (va_cons ve_int va_nil))) (va_cons (ve_tup (va_cons ve_non (va_cons ve_int (va_cons ve_int va_nil)))) (va_cons (ve_tup (va_cons ve_int (va_cons ve_bl (va_cons ve_int va_nil)))) (va_cons ve_int (va_cons ve_non (va_cons (ve_tup (va_cons ve_int (va_cons ve_int (va_cons ve_int (va_cons ve_int va_nil))))) (va_cons (ve_tup (va_cons ve_int (va_cons ve_str (va_cons ve_int va_nil)))) (va_cons (ve_lst (va_cons ve_int (va_cons ve_int va_nil))) va_nil))))))))) va_nil))))
      (vss_cons (vs_set (i := 1) sc__law_refused_right.nd rfl (Or.inl rfl) (ve_call (ok__law_pick T) (hr.mono (by decide)) (by rfl) T.g__law_pick T.F__law_pick.kp T.b__law_pick .nil (fun _ => .nil) hx_of (va_cons (vpv 0) (va_cons (ve_lst (va_cons ve_non (va_cons ve_int (va_cons ve_str va_nil)))) va_nil))))
      (vss_cons (vs_if (vt_cmp (ov_neD rfl (hu64_of hr)) (ve_toldM (al := toldA T) (pe_told (k := 6) (g := gK T) T.F__law_told (by rfl) T.g__law_told T.b__law_told sc__law_told rfl (.inl rfl) (fun _ => gives__law_told T) TB rfl (List.mem_singleton.mpr rfl) (fun p hp _ => by rw [List.mem_singleton.mp hp]; rfl) (hr.mono (by decide)) (show LamX.LamS (defScope s__law_refused_right) _ from LamX.lamS_by (by decide +kernel)) rfl (fun _ _ _ _ _ => rfl) (fun A outer s H E f c hr F0 H0 xq => (ve_call (ok_free_shifts T) (hr.mono (by decide)) (by rfl) T.g_free_shifts T.F_free_shifts.kp T.b_free_shifts .nil (fun _ => .nil) hx_lam (va_cons (vpv 6) (va_cons ve_non va_nil)))))) (ve_tup (va_cons ve_str (va_cons (vpv 6) va_nil))) (nomark _)) (vss_one (vs_ret ve_bl)) vss_nil)
      (vss_cons (vs_if (vt_cmp (ov_neD rfl (hu64_of hr)) (ve_toldM (al := toldA T) (pe_told (k := 6) (g := gK T) T.F__law_told (by rfl) T.g__law_told T.b__law_told sc__law_told rfl (.inl rfl) (fun _ => gives__law_told T) TB rfl (List.mem_singleton.mpr rfl) (fun p hp _ => by rw [List.mem_singleton.mp hp]; rfl) (hr.mono (by decide)) (show LamX.LamS (defScope s__law_refused_right) _ from LamX.lamS_by (by decide +kernel)) rfl (fun _ _ _ _ _ => rfl) (fun A outer s H E f c hr F0 H0 xq => (ve_call (ok_best_shift T) (hr.mono (by decide)) (by rfl) T.g_best_shift T.F_best_shift.kp T.b_best_shift .nil (fun _ => .nil) hx_lam (va_cons (vpv 6) (va_cons ve_int (va_cons ve_non va_nil))))))) (ve_tup (va_cons ve_str (va_cons (vpv 6) va_nil))) (nomark _)) (vss_one (vs_ret ve_bl)) vss_nil)
      (vss_cons (vs_if (vt_cmp (ov_neD rfl (hu64_of hr)) (ve_toldM (al := toldA T) (pe_told (k := 6) (g := gK T) T.F__law_told (by rfl) T.g__law_told T.b__law_told sc__law_told rfl (.inl rfl) (fun _ => gives__law_told T) TB rfl (List.mem_singleton.mpr rfl) (fun p hp _ => by rw [List.mem_singleton.mp hp]; rfl) (hr.mono (by decide)) (show LamX.LamS (defScope s__law_refused_right) _ from LamX.lamS_by (by decide +kernel)) rfl (fun _ _ _ _ _ => rfl) (fun A outer s H E f c hr F0 H0 xq => (ve_call (ok_shift_cost T) (hr.mono (by decide)) (by rfl) T.g_shift_cost T.F_shift_cost.kp T.b_shift_cost .nil (fun _ => .nil) hx_lam (va_cons (vpv 6) (va_cons ve_int (va_cons ve_int (va_cons ve_non va_nil)))))))) (ve_tup (va_cons ve_str (va_cons (vpv 6) va_nil))) (nomark _)) (vss_one (vs_ret ve_bl)) vss_nil)
      (vss_cons (vs_if (vt_cmp (ov_neD rfl (hu64_of hr)) (ve_toldM (al := toldA T) (pe_told (k := 6) (g := gK T) T.F__law_told (by rfl) T.g__law_told T.b__law_told sc__law_told rfl (.inl rfl) (fun _ => gives__law_told T) TB rfl (List.mem_singleton.mpr rfl) (fun p hp _ => by rw [List.mem_singleton.mp hp]; rfl) (hr.mono (by decide)) (show LamX.LamS (defScope s__law_refused_right) _ from LamX.lamS_by (by decide +kernel)) rfl (fun _ _ _ _ _ => rfl) (fun A outer s H E f c hr F0 H0 xq => (ve_call (ok_free_shifts T) (hr.mono (by decide)) (by rfl) T.g_free_shifts T.F_free_shifts.kp T.b_free_shifts .nil (fun _ => .nil) hx_lam (va_cons (vpv 3) (va_cons (ve_op ov_cat (vpv 8) (ve_lst (va_cons (vpv 2) (va_cons ve_int va_nil)))) va_nil)))))) (ve_tup (va_cons ve_str (va_cons (vpv 2) va_nil))) (nomark _)) (vss_one (vs_ret ve_bl)) vss_nil)
      (vss_cons (vs_for (vs := [4]) own_of rfl (vi_list rfl (ve_lst (va_cons (vpv 1) (va_cons (ve_lst va_nil) va_nil)))) (vg_name (i := 4) (by decide) sc__law_refused_right.nd rfl (Or.inr rfl))
      (vss_one (vs_if (vt_cmp (ov_neD rfl (hu64_of hr)) (ve_toldM (al := toldA T) (pe_told (k := 6) (g := gK T) T.F__law_told (by rfl) T.g__law_told T.b__law_told sc__law_told rfl (.inl rfl) (fun _ => gives__law_told T) TB rfl (List.mem_singleton.mpr rfl) (fun p hp _ => by rw [List.mem_singleton.mp hp]; rfl) (hr.mono (by decide)) (show LamX.LamS (defScope s__law_refused_right) _ from LamX.lamS_by (by decide +kernel)) rfl (fun _ _ _ _ _ => rfl) (fun A outer s H E f c hr F0 H0 xq => (ve_call (ok_free_shifts T) (hr.mono (by decide)) (by rfl) T.g_free_shifts T.F_free_shifts.kp T.b_free_shifts .nil (fun _ => .nil) hx_lam (va_cons (vpv 3) (va_cons (vpv 4) va_nil)))))) (ve_tup (va_cons ve_str (va_cons (vpv 4) va_nil))) (nomark _)) (vss_one (vs_ret ve_bl)) vss_nil)))
      (vss_cons (vs_if (vt_cmp (ov_neD rfl (hu64_of hr)) (ve_toldM (al := toldA T) (pe_told (k := 6) (g := gK T) T.F__law_told (by rfl) T.g__law_told T.b__law_told sc__law_told rfl (.inl rfl) (fun _ => gives__law_told T) TB rfl (List.mem_singleton.mpr rfl) (fun p hp _ => by rw [List.mem_singleton.mp hp]; rfl) (hr.mono (by decide)) (show LamX.LamS (defScope s__law_refused_right) _ from LamX.lamS_by (by decide +kernel)) rfl (fun _ _ _ _ _ => rfl) (fun A outer s H E f c hr F0 H0 xq => (ve_call (ok_free_shifts T) (hr.mono (by decide)) (by rfl) T.g_free_shifts T.F_free_shifts.kp T.b_free_shifts .nil (fun _ => .nil) hx_lam (va_cons (vpv 3) (va_cons (ve_lst (va_cons (ve_tup (va_cons ve_int (va_cons ve_int (va_cons (vpv 9) va_nil)))) va_nil)) va_nil)))))) (ve_tup (va_cons ve_str (va_cons (ve_tup (va_cons ve_int (va_cons ve_int (va_cons (vpv 9) va_nil)))) va_nil))) (nomark _)) (vss_one (vs_ret ve_bl)) vss_nil)
      (vss_cons (vs_if (vt_cmp (ov_neD rfl (hu64_of hr)) (ve_toldM (al := toldA T) (pe_told (k := 6) (g := gK T) T.F__law_told (by rfl) T.g__law_told T.b__law_told sc__law_told rfl (.inl rfl) (fun _ => gives__law_told T) TB rfl (List.mem_singleton.mpr rfl) (fun p hp _ => by rw [List.mem_singleton.mp hp]; rfl) (hr.mono (by decide)) (show LamX.LamS (defScope s__law_refused_right) _ from LamX.lamS_by (by decide +kernel)) rfl (fun _ _ _ _ _ => rfl) (fun A outer s H E f c hr F0 H0 xq => (ve_call (ok_best_shift T) (hr.mono (by decide)) (by rfl) T.g_best_shift T.F_best_shift.kp T.b_best_shift .nil (fun _ => .nil) hx_lam (va_cons (vpv 3) (va_cons (vpv 9) (va_cons (ve_lst (va_cons (vpv 2) va_nil)) va_nil))))))) (ve_tup (va_cons ve_str (va_cons (vpv 9) va_nil))) (nomark _)) (vss_one (vs_ret ve_bl)) vss_nil)
      (vss_cons (vs_set (i := 5) sc__law_refused_right.nd rfl (Or.inr rfl) (ve_tup (va_cons ve_int (va_cons ve_int (va_cons (ve_call (ok__law_pick T) (hr.mono (by decide)) (by rfl) T.g__law_pick T.F__law_pick.kp T.b__law_pick .nil (fun _ => .nil) hx_of (va_cons (vpv 0) (va_cons (ve_lst (va_cons (ve_un VL.un_neg ve_int) (va_cons ve_non (va_cons ve_bl (va_cons ve_str va_nil))))) va_nil))) va_nil)))))
      (vss_cons (vs_if (vt_cmp (ov_neD rfl (hu64_of hr)) (ve_toldM (al := toldA T) (pe_told (k := 6) (g := gK T) T.F__law_told (by rfl) T.g__law_told T.b__law_told sc__law_told rfl (.inl rfl) (fun _ => gives__law_told T) TB rfl (List.mem_singleton.mpr rfl) (fun p hp _ => by rw [List.mem_singleton.mp hp]; rfl) (hr.mono (by decide)) (show LamX.LamS (defScope s__law_refused_right) _ from LamX.lamS_by (by decide +kernel)) rfl (fun _ _ _ _ _ => rfl) (fun A outer s H E f c hr F0 H0 xq => (ve_call (ok_best_shift T) (hr.mono (by decide)) (by rfl) T.g_best_shift T.F_best_shift.kp T.b_best_shift .nil (fun _ => .nil) hx_lam (va_cons (vpv 3) (va_cons ve_int (va_cons (ve_lst (va_cons (ve_tup (va_cons ve_int (va_cons ve_int (va_cons ve_int va_nil)))) (va_cons (vpv 5) va_nil))) va_nil))))))) (ve_tup (va_cons ve_str (va_cons (vpv 5) va_nil))) (nomark _)) (vss_one (vs_ret ve_bl)) vss_nil)
      (vss_cons (vs_if (vt_cmp (ov_neD rfl (hu64_of hr)) (ve_toldM (al := toldA T) (pe_told (k := 6) (g := gK T) T.F__law_told (by rfl) T.g__law_told T.b__law_told sc__law_told rfl (.inl rfl) (fun _ => gives__law_told T) TB rfl (List.mem_singleton.mpr rfl) (fun p hp _ => by rw [List.mem_singleton.mp hp]; rfl) (hr.mono (by decide)) (show LamX.LamS (defScope s__law_refused_right) _ from LamX.lamS_by (by decide +kernel)) rfl (fun _ _ _ _ _ => rfl) (fun A outer s H E f c hr F0 H0 xq => (ve_call (ok_shift_cost T) (hr.mono (by decide)) (by rfl) T.g_shift_cost T.F_shift_cost.kp T.b_shift_cost .nil (fun _ => .nil) hx_lam (va_cons (vpv 3) (va_cons ve_int (va_cons (ve_lst (va_cons (vpv 2) va_nil)) (va_cons ve_str va_nil)))))))) (ve_tup (va_cons ve_str (va_cons (vpv 2) va_nil))) (nomark _)) (vss_one (vs_ret ve_bl)) vss_nil)
      (vss_cons (vs_set (i := 7) sc__law_refused_right.nd rfl (Or.inr rfl) (ve_call (ok__law_pick T) (hr.mono (by decide)) (by rfl) T.g__law_pick T.F__law_pick.kp T.b__law_pick .nil (fun _ => .nil) hx_of (va_cons (vpv 0) (va_cons (ve_lst (va_cons ve_non (va_cons ve_bl (va_cons ve_str (va_cons (ve_tup (va_cons ve_int va_nil)) va_nil))))) va_nil))))
      (vss_one (vs_ret (ve_cmp (ov_eqD rfl (hu64_of hr)) (ve_toldM (al := toldA T) (pe_told (k := 6) (g := gK T) T.F__law_told (by rfl) T.g__law_told T.b__law_told sc__law_told rfl (.inl rfl) (fun _ => gives__law_told T) TB rfl (List.mem_singleton.mpr rfl) (fun p hp _ => by rw [List.mem_singleton.mp hp]; rfl) (hr.mono (by decide)) (show LamX.LamS (defScope s__law_refused_right) _ from LamX.lamS_by (by decide +kernel)) rfl (fun _ _ _ _ _ => rfl) (fun A outer s H E f c hr F0 H0 xq => (ve_call (ok_shift_cost T) (hr.mono (by decide)) (by rfl) T.g_shift_cost T.F_shift_cost.kp T.b_shift_cost .nil (fun _ => .nil) hx_lam (va_cons (vpv 3) (va_cons ve_int (va_cons (vpv 8) (va_cons (vpv 7) va_nil)))))))) (ve_tup (va_cons ve_str (va_cons (vpv 7) va_nil))) (nomark _))))))))))))))))))), fun ts n Q hl h => ?_⟩
  clear e lk hcd
  match ts, h with
  | [.pen], ⟨hn, h⟩ =>
    walk_at "w"
    intro d d0 d1
    have d9 : B 30 (2 + d) := B.small (by omega) (by omega)
    walk_at "w"
    intro odd hodd
    obtain ⟨o1, o2⟩ := odd_ok hodd
    clear hodd
    walk_at "w"
    intro wry hwry
    obtain ⟨w1, w2, w3⟩ := wry_ok hwry
    clear hwry
    walk_at "w"
    intro bent hbent
    obtain ⟨b1, b2, b3⟩ := bent_ok hbent
    clear hbent
    walk_at "w"
    intro lone hlone
    obtain ⟨l1, l2⟩ := lone_ok hlone
    clear hlone
    walk_at "w"
    intro _ _ _
    walk_at "w"
    refine .inr ?_
    dsimp only [spR_free_shifts, spR_best_shift, spR_shift_cost]
    refine (okQ_F o1 <| bad_of ?_)
    refine ⟨_, _, List.mem_singleton.mpr rfl, .s (.f rfl .nil), Nat.le_of_ble_eq_true rfl, ?_⟩
    walk_at "w"
    rw [eqT_refl o2]
    show brS false _ _ _ _ _
    walk_at "w"
    intro _ _ _
    walk_at "w"
    refine .inr ?_
    dsimp only [spR_free_shifts, spR_best_shift, spR_shift_cost]
    refine (okQ_F o1 <| bad_of ?_)
    refine ⟨_, _, List.mem_singleton.mpr rfl, .s (.f rfl .nil), Nat.le_of_ble_eq_true rfl, ?_⟩
    walk_at "w"
    rw [eqT_refl o2]
    show brS false _ _ _ _ _
    walk_at "w"
    intro _ _ _
    walk_at "w"
    refine .inr ?_
    dsimp only [spR_free_shifts, spR_best_shift, spR_shift_cost]
    refine (okQ_F o1 <| bad_of ?_)
    refine ⟨_, _, List.mem_singleton.mpr rfl, .s (.f rfl .nil), Nat.le_of_ble_eq_true rfl, ?_⟩
    walk_at "w"
    rw [eqT_refl o2]
    show brS false _ _ _ _ _
    walk_at "w"
    intro _ _ _
    walk_at "w"
    refine .inr ?_
    dsimp only [spR_free_shifts, spR_best_shift, spR_shift_cost]
    refine (deal_T <| wants_l <| wantsQ_T rfl <| wantsQ_F b1 <| bad_of ?_)
    refine ⟨_, _, List.mem_singleton.mpr rfl, .s (.f rfl .nil), Nat.le_of_ble_eq_true rfl, ?_⟩
    walk_at "w"
    rw [eqT_refl b3]
    show brS false _ _ _ _ _
    walk_at "w"
    have l3 : okD (tv (.lst [])) := ⟨rfl, by decide +kernel⟩
    unfold forW
    walk_at "w"
    intro _ _ _
    walk_at "w"
    refine .inr ?_
    dsimp only [spR_free_shifts, spR_best_shift, spR_shift_cost]
    refine (deal_T <| wants_it l1 <| bad_of ?_)
    refine ⟨_, _, List.mem_singleton.mpr rfl, .s (.f rfl .nil), Nat.le_of_ble_eq_true rfl, ?_⟩
    walk_at "w"
    rw [eqT_refl l2]
    show brS false _ _ _ _ _
    walk_at "w"
    unfold forW
    walk_at "w"
    intro _ _ _
    walk_at "w"
    refine .inr ?_
    dsimp only [spR_free_shifts, spR_best_shift, spR_shift_cost]
    refine (deal_T <| wants_l <| okQ_F rfl <| bad_of ?_)
    refine ⟨_, _, List.mem_singleton.mpr rfl, .s (.f rfl .nil), Nat.le_of_ble_eq_true rfl, ?_⟩
    walk_at "w"
    rw [eqT_refl l3]
    show brS false _ _ _ _ _
    walk_at "w"
    unfold forW
    walk_at "w"
    intro _ _ _
    walk_at "w"
    refine .inr ?_
    dsimp only [spR_free_shifts, spR_best_shift, spR_shift_cost]
    refine (deal_T <| wants_l <| wantsQ_F w1 <| bad_of ?_)
    refine ⟨_, _, List.mem_singleton.mpr rfl, .s (.f rfl .nil), Nat.le_of_ble_eq_true rfl, ?_⟩
    walk_at "w"
    rw [eqT_refl w3]
    show brS false _ _ _ _ _
    walk_at "w"
    intro _ _ _
    walk_at "w"
    refine .inr ?_
    dsimp only [spR_free_shifts, spR_best_shift, spR_shift_cost]
    refine (deal_T <| okQ_F w1 <| bad_of ?_)
    refine ⟨_, _, List.mem_singleton.mpr rfl, .s (.f rfl .nil), Nat.le_of_ble_eq_true rfl, ?_⟩
    walk_at "w"
    rw [eqT_refl w2]
    show brS false _ _ _ _ _
    walk_at "w"
    intro hv hhv
    obtain ⟨h1, h2⟩ := heavy_ok hhv
    clear hhv
    walk_at "w"
    intro _ _ _
    walk_at "w"
    refine .inr ?_
    dsimp only [spR_free_shifts, spR_best_shift, spR_shift_cost]
    refine (deal_T <| okQ_T rfl <| wants_l <| wantsQ_T rfl <| wantsQ_F h1 <| bad_of ?_)
    refine ⟨_, _, List.mem_singleton.mpr rfl, .s (.f rfl .nil), Nat.le_of_ble_eq_true rfl, ?_⟩
    walk_at "w"
    rw [eqT_refl h2]
    show brS false _ _ _ _ _
    walk_at "w"
    intro _ _ _
    walk_at "w"
    refine .inr ?_
    dsimp only [spR_free_shifts, spR_best_shift, spR_shift_cost]
    refine (deal_T <| okQ_T rfl <| wants_l <| wantsQ_F b2 <| bad_of ?_)
    refine ⟨_, _, List.mem_singleton.mpr rfl, .s (.f rfl .nil), Nat.le_of_ble_eq_true rfl, ?_⟩
    walk_at "w"
    rw [eqT_refl b3]
    show brS false _ _ _ _ _
    walk_at "w"
    intro sv hsv
    obtain ⟨s1, s2⟩ := strange_ok hsv
    clear hsv
    walk_at "w"
    intro _ _ _
    walk_at "w"
    refine .inr ?_
    dsimp only [spR_free_shifts, spR_best_shift, spR_shift_cost]
    refine (deal_T <| okQ_T rfl <| wants_l <| wantsQ_T rfl <| okQ_T rfl <| okQ_F s1 <| bad_of ?_)
    refine ⟨_, _, List.mem_singleton.mpr rfl, .s (.f rfl .nil), Nat.le_of_ble_eq_true rfl, ?_⟩
    walk_at "w"
    rw [eqT_refl s2]
    exact h
end
end K27
namespace K27
open PySem L2 DS VL MT
/-! the mathematics of the law: no program -/
theorem gcd_parts {st b h : Int} (b0 : 0 < b) (h0 : 0 < h) : ∃ m : Int, b = (Int.gcd st b : Nat) * m ∧ 0 < m ∧ (0 : Int) < (Int.gcd st b : Nat) ∧ b * h / (Int.gcd st b : Nat) = m * h ∧ (Int.gcd st b : Nat) * (m * h) = b * h ∧ ((Int.gcd st b : Nat) : Int) ≤ b := by
  have g0 : 0 < Int.gcd st b := Int.gcd_pos_of_ne_zero_right _ (by omega)
  obtain ⟨m, hm⟩ := Int.gcd_dvd_right st b
  have gp : (0 : Int) < (Int.gcd st b : Nat) := by omega
  have m0 : 0 < m := by
    rcases Int.lt_or_le 0 m with h | h
    · exact h
    · have := Int.mul_nonpos_of_nonneg_of_nonpos (Int.le_of_lt gp) h
      omega
  have e : (Int.gcd st b : Nat) * (m * h) = b * h := by rw [← Int.mul_assoc, ← hm]
  refine ⟨m, hm, m0, gp, ?_, e, Int.le_of_dvd b0 (Int.gcd_dvd_right st b)⟩
  rw [← e, Int.mul_ediv_cancel_left _ (Int.ne_of_gt gp)]
theorem sent_ph {b h m : Int} (b0 : 0 < b) (h2 : 2 ≤ h) (a : I3) (st sh : Int) : sent b h m a st sh = h * ph b (Int.gcd st b : Nat) (b * h / (Int.gcd st b : Nat)) ((a.2.1 + sh) / (Int.gcd st b : Nat) - (a.1 + m) / (Int.gcd st b : Nat)) := by
  obtain ⟨B, rfl⟩ := Int.eq_ofNat_of_zero_le (Int.le_of_lt b0)
  obtain ⟨H, rfl⟩ := Int.eq_ofNat_of_zero_le (show 0 ≤ h by omega)
  obtain ⟨k, hk, k0, e⟩ := sent_eq (b := B) (h := H) (by omega) (by omega) (a.1 + m) (a.2.1 + sh) st
  obtain ⟨k', hk', k0', g0, eR, _, _⟩ := gcd_parts (st := st) (b := (B : Int)) (h := (H : Int)) b0 (by omega)
  have kk : k' = (k : Int) := by
    have : ((Int.gcd st B : Nat) : Int) * k' = (Int.gcd st B : Nat) * (k : Int) := by rw [← hk']; exact_mod_cast hk
    exact Int.eq_of_mul_eq_mul_left (Int.ne_of_gt g0) this
  subst kk
  unfold sent
  rw [show ((B : Int) * (H : Int)).toNat = B * H by rw [← Int.natCast_mul]; rfl, e, eR]
  congr 1
  unfold ph
  generalize hN : near _ _ = N
  have hb : ((B : Nat) : Int) = (Int.gcd st B : Nat) * (k : Int) := hk'
  by_cases q : (k : Int) < N
  · rw [if_pos q, if_pos (by have := Int.mul_lt_mul_of_pos_left q g0; omega)]
    exact hb.symm
  · rw [if_neg q, if_neg (by
      intro z
      have : ((Int.gcd st B : Nat) : Int) * N ≤ (Int.gcd st B : Nat) * k := Int.mul_le_mul_of_nonneg_left (by omega) (by omega)
      omega)]
theorem sent_one {b m : Int} (a : I3) (st sh : Int) : sent b 1 m a st sh = 0 := by
  unfold sent
  rw [sm_congr (g := fun _ => 0) (fun k _ => by unfold dH; rw [Int.emod_one, Int.emod_one, if_pos rfl])]
  generalize (b * 1).toNat = N
  induction N with
  | zero => rfl
  | succ n ih => show sm _ n + 0 = 0; omega
theorem cst_sum {b h m : Int} (b0 : 0 < b) (h2 : 2 ≤ h) (st sh : Int) : ∀ l : List I3, cst b h (Int.gcd st b : Nat) (b * h / (Int.gcd st b : Nat)) (m % (b * h)) sh l = (l.map fun a => a.2.2 * sent b h m a st sh).sum
  | [] => rfl
  | (f, o, wt) :: l => by
    obtain ⟨k, hk, k0, g0, eR, eW, _⟩ := gcd_parts (st := st) (b := b) (h := h) b0 (by omega)
    rw [List.map_cons, List.sum_cons, ← cst_sum b0 h2 st sh l, sent_ph b0 h2]
    show wt * h * ph _ _ _ _ + _ = _
    dsimp only
    rw [Int.mul_assoc]
    congr 3
    generalize hg : ((Int.gcd st b : Nat) : Int) = g at *
    have e : m = m % (b * h) + g * ((b * h / g) * (m / (b * h))) := by
      have := Int.emod_add_mul_ediv m (b * h)
      rw [eR, ← Int.mul_assoc, eW]
      omega
    have e2 : (f + m) / g = (f + m % (b * h)) / g + (b * h / g) * (m / (b * h)) := by
      rw [show f + m = f + m % (b * h) + g * ((b * h / g) * (m / (b * h))) by omega, Int.add_mul_ediv_left _ _ (Int.ne_of_gt g0)]
    rw [e2]
    have := ph_mod (b := b) (p := g) (R := b * h / g) (w := (o + sh) / g - (f + m % (b * h)) / g) (k := -(m / (b * h)))
    rw [← this]
    congr 1
    rw [Int.mul_neg]
    omega
/-! ### the tried shifts -/
theorem mem_tried {p R s : Int} {l : List I3} {t : Int} : t ∈ tried p R s l ↔ ∃ rest, (rest = 0 ∨ ∃ a ∈ l, rest = -a.2.1 % p) ∧ (t = rest ∨ ∃ a ∈ l, t = rest + p * (((a.1 + s) / p - (a.2.1 + rest) / p) % R)) := by
  unfold tried turns
  simp only [List.mem_flatMap, List.mem_cons, List.mem_map]
  constructor
  · rintro ⟨rest, h1, h2⟩
    refine ⟨rest, ?_, ?_⟩
    · rcases h1 with h | ⟨a, m, h⟩
      · exact .inl h
      · exact .inr ⟨a, m, h.symm⟩
    · rcases h2 with h | ⟨a, m, h⟩
      · exact .inl h
      · exact .inr ⟨a, m, h.symm⟩
  · rintro ⟨rest, h1, h2⟩
    refine ⟨rest, ?_, ?_⟩
    · rcases h1 with h | ⟨a, m, h⟩
      · exact .inl h
      · exact .inr ⟨a, m, h.symm⟩
    · rcases h2 with h | ⟨a, m, h⟩
      · exact .inl h
      · exact .inr ⟨a, m, h.symm⟩
theorem rest_lt {p : Int} (hp : 0 < p) {l : List I3} {rest : Int} (h : rest = 0 ∨ ∃ a ∈ l, rest = -a.2.1 % p) : 0 ≤ rest ∧ rest < p := by
  rcases h with rfl | ⟨a, _, rfl⟩
  · omega
  · exact ⟨Int.emod_nonneg _ (by omega), Int.emod_lt_of_pos _ hp⟩
theorem tried_in {p R s : Int} (hp : 0 < p) (hR : 0 < R) {l : List I3} {t : Int} (h : t ∈ tried p R s l) : 0 ≤ t ∧ t < p * R := by
  obtain ⟨rest, h1, h2⟩ := mem_tried.mp h
  obtain ⟨r0, r1⟩ := rest_lt hp h1
  have pR : p * 1 ≤ p * R := Int.mul_le_mul_of_nonneg_left (by omega) (by omega)
  rcases h2 with rfl | ⟨a, _, rfl⟩
  · omega
  · generalize hq : ((a.1 + s) / p - (a.2.1 + rest) / p) % R = q
    have q0 : 0 ≤ q := by rw [← hq]; exact Int.emod_nonneg _ (by omega)
    have q1 : q < R := by rw [← hq]; exact Int.emod_lt_of_pos _ hR
    have h1 : p * q ≤ p * (R - 1) := Int.mul_le_mul_of_nonneg_left (by omega) (by omega)
    have h0 : 0 ≤ p * q := Int.mul_nonneg (by omega) q0
    rw [Int.mul_sub] at h1
    omega
theorem tried_P {b h p R s : Int} (b0 : 0 ≤ b) (h0 : 0 ≤ h) (hp : 0 < p) (hR : 0 < R) {l : List I3} (hw : ∀ x ∈ l, 0 ≤ x.2.2) {t : Int} (t0 : 0 ≤ t) (t1 : t < p * R) (no : t ∉ tried p R s l) :
    ∃ t', 0 ≤ t' ∧ t' < p * R ∧ (cst b h p R s t' l < cst b h p R s t l ∨ (cst b h p R s t' l = cst b h p R s t l ∧ t' < t)) := by
  refine cst_better b0 h0 hp hR hw t0 t1 ?_
  by_cases c : ∃ rest, (rest = 0 ∨ ∃ a ∈ l, rest = -a.2.1 % p) ∧ t % p = rest
  · right
    obtain ⟨rest, hr, ht⟩ := c
    have te := Int.emod_add_mul_ediv t p
    have k0 : 0 ≤ t / p := Int.ediv_nonneg t0 (by omega)
    have k1 : t / p < R := Int.ediv_lt_of_lt_mul hp (by rw [Int.mul_comm]; exact t1)
    refine ⟨?_, fun x hx z => no (mem_tried.mpr ⟨rest, hr, .inr ⟨x, hx, ?_⟩⟩)⟩
    · rcases Int.lt_or_le t p with q | q
      · exfalso
        exact no (mem_tried.mpr ⟨rest, hr, .inl (by rw [← ht, Int.emod_eq_of_lt t0 q])⟩)
      · exact q
    · have e : (x.2.1 + t) / p = (x.2.1 + rest) / p + t / p := by
        rw [show x.2.1 + t = x.2.1 + rest + p * (t / p) by omega, Int.add_mul_ediv_left _ _ (by omega)]
      rw [e] at z
      have e2 : ((x.1 + s) / p - (x.2.1 + rest) / p) % R = t / p := by
        have : ((x.1 + s) / p - (x.2.1 + rest) / p) % R = (t / p) % R := by
          rw [Int.emod_eq_emod_iff_emod_sub_eq_zero]
          rw [show (x.1 + s) / p - (x.2.1 + rest) / p - t / p = -((x.2.1 + rest) / p + t / p - (x.1 + s) / p) by omega]
          exact Int.emod_eq_zero_of_dvd (Int.dvd_neg.mpr (Int.dvd_of_emod_eq_zero z))
        rw [this, Int.emod_eq_of_lt k0 k1]
      rw [e2]
      omega
  · left
    refine ⟨fun z => c ⟨0, .inl rfl, z⟩, fun x hx z => c ⟨-x.2.1 % p, .inr ⟨x, hx, rfl⟩, ?_⟩⟩
    rw [Int.emod_eq_emod_iff_emod_sub_eq_zero, show t - -x.2.1 = x.2.1 + t by omega]
    exact z
/-- the best shift of any deal -/
theorem best_ex {b h s st : Int} (b0 : 0 < b) (h0 : 0 < h) {l : List I3} (hw : ∀ x ∈ l, 0 ≤ x.2.2) : ∃ t, bestS b h s st l = some (cst b h (Int.gcd st b : Nat) (b * h / (Int.gcd st b : Nat)) s t l, t) ∧ 0 ≤ t ∧ t < b * h ∧ ∀ u, 0 ≤ u → u < b * h → lexle (fun sh => cst b h (Int.gcd st b : Nat) (b * h / (Int.gcd st b : Nat)) s sh l) t u := by
  obtain ⟨k, hk, k0, g0, eR, eW, _⟩ := gcd_parts (st := st) (b := b) (h := h) b0 h0
  have R0 : 0 < b * h / (Int.gcd st b : Nat) := by rw [eR]; exact Int.mul_pos k0 h0
  have W0 := Int.mul_pos b0 h0
  have eW2 : (Int.gcd st b : Nat) * (b * h / (Int.gcd st b : Nat)) = b * h := by rw [eR, eW]
  have hN : (((b * h).toNat : Nat) : Int) = b * h := by omega
  obtain ⟨t, h1, h2, h3, h4⟩ := bst_eq (C := fun sh => cst b h (Int.gcd st b : Nat) (b * h / (Int.gcd st b : Nat)) s sh l) (N := (b * h).toNat) (by omega) (L := tried (Int.gcd st b : Nat) (b * h / (Int.gcd st b : Nat)) s l)
    (fun t ht => by
      have := tried_in g0 R0 ht
      rw [eW2] at this
      omega)
    (fun t t0 t1 no => by
      obtain ⟨t', a1, a2, a3⟩ := tried_P (b := b) (h := h) (by omega) (by omega) g0 R0 hw t0 (by rw [eW2]; omega) no
      rw [eW2] at a2
      exact ⟨t', a1, by omega, a3⟩)
  exact ⟨t, h1, h2, by omega, fun u u0 u1 => h4 u u0 (by omega)⟩
end K27
namespace K27
open PySem L2 DS VL MT
/-! from far -/
theorem gcd_far {st b c : Int} (c0 : 0 < c) : ((Int.gcd (st * c) (b * c) : Nat) : Int) = (Int.gcd st b : Nat) * c := by
  rw [Int.gcd_mul_right]
  have : ((c.natAbs : Nat) : Int) = c := by omega
  rw [Int.natCast_mul, this]
theorem ring_far {b h p c : Int} (c0 : 0 < c) : b * c * h / (p * c) = b * h / p := by
  rw [show b * c * h = c * (b * h) by rw [Int.mul_comm b c, Int.mul_assoc], Int.mul_comm p c, Int.mul_ediv_mul_of_pos _ _ c0]
theorem near_lin (w R : Int) : near w R = near w R := rfl
theorem ph_far {b p R w c : Int} (c0 : 0 < c) : ph (b * c) (p * c) R w = c * ph b p R w := by
  unfold ph
  generalize near (w % R) R = N
  rw [show p * c * N = c * (p * N) by rw [Int.mul_comm p c, Int.mul_assoc], Int.mul_comm b c]
  by_cases q : b < p * N
  · rw [if_pos q, if_pos (Int.mul_lt_mul_of_pos_left q c0)]
  · rw [if_neg q, if_neg (by
      intro z
      exact q (Int.lt_of_mul_lt_mul_left z (by omega)))]
theorem div_far {x t p c : Int} (c0 : 0 < c) (hp : 0 < p) : (x * c + t) / (p * c) = (x + t / c) / p := by
  rw [Int.mul_comm p c, ← Int.ediv_ediv_of_nonneg (by omega), Int.add_comm, Int.add_mul_ediv_right _ _ (by omega), Int.add_comm]
theorem cst_far {b h p R s c : Int} (c0 : 0 < c) (hp : 0 < p) (t : Int) : ∀ l : List I3, cst (b * c) h (p * c) R (s * c) t (l.map (scl c false)) = c * cst b h p R s (t / c) l
  | [] => by show (0 : Int) = c * 0; omega
  | (f, o, wt) :: l => by
    show wt * h * ph (b * c) (p * c) R ((o * c + t) / (p * c) - (f * c + s * c) / (p * c)) + cst _ _ _ _ _ _ _ = c * (wt * h * ph b p R _ + _)
    rw [cst_far c0 hp t l, ph_far c0, div_far c0 hp, Int.mul_add]
    have : (f * c + s * c) / (p * c) = (f + s) / p := by rw [div_far c0 hp, Int.mul_ediv_cancel _ (by omega)]
    rw [this]
    congr 1
    rw [← Int.mul_assoc, Int.mul_comm (wt * h) c, Int.mul_assoc]
theorem shift_far {b h m c : Int} (c0 : 0 < c) : (m * c) % (b * c * h) = m % (b * h) * c := by
  rw [show b * c * h = c * (b * h) by rw [Int.mul_comm b c, Int.mul_assoc], Int.mul_comm m c, Int.mul_emod_mul_of_pos _ _ c0, Int.mul_comm]
/-- costs from far -/
theorem cost_far {b h s st c t : Int} (c0 : 0 < c) (b0 : 0 < b) (h0 : 0 < h) (l : List I3) : cst (b * c) h (Int.gcd (st * c) (b * c) : Nat) (b * c * h / (Int.gcd (st * c) (b * c) : Nat)) (s * c) t (l.map (scl c false)) = c * cst b h (Int.gcd st b : Nat) (b * h / (Int.gcd st b : Nat)) s (t / c) l := by
  obtain ⟨k, hk, k0, g0, eR, eW, _⟩ := gcd_parts (st := st) (b := b) (h := h) b0 h0
  rw [gcd_far c0, ring_far c0, cst_far c0 g0]
theorem best_far {b h s st c C t : Int} (c0 : 0 < c) (b0 : 0 < b) (h0 : 0 < h) {l : List I3} (hw : ∀ x ∈ l, 0 ≤ x.2.2) (e : bestS b h s st l = some (C, t)) : bestS (b * c) h (s * c) (st * c) (l.map (scl c false)) = some (C * c, t * c) := by
  obtain ⟨t1, e1, a0, a1, a2⟩ := best_ex (s := s) (st := st) b0 h0 hw
  rw [e] at e1
  cases e1
  obtain ⟨u, e2, u0, u1, u2⟩ := best_ex (b := b * c) (h := h) (s := s * c) (st := st * c) (l := l.map (scl c false)) (Int.mul_pos b0 c0) h0 (fun x hx => by
    obtain ⟨a, ma, rfl⟩ := List.mem_map.mp hx
    exact hw a ma)
  have W0 := Int.mul_pos b0 h0
  have eW : b * c * h = b * h * c := by rw [Int.mul_assoc, Int.mul_comm c h, Int.mul_assoc]
  have uc0 : 0 ≤ u / c := Int.ediv_nonneg u0 (by omega)
  have uc1 : u / c < b * h := Int.ediv_lt_of_lt_mul c0 (by rw [← eW]; exact u1)
  have tc : t * c < b * c * h := by rw [eW]; exact Int.mul_lt_mul_of_pos_right a1 c0
  have tc0 : 0 ≤ t * c := Int.mul_nonneg a0 (by omega)
  have l1 := u2 (t * c) tc0 tc
  have l2 := a2 (u / c) uc0 uc1
  unfold lexle at l1 l2
  dsimp only at l1 l2
  rw [cost_far c0 b0 h0, cost_far c0 b0 h0, Int.mul_ediv_cancel _ (by omega)] at l1
  rw [cost_far c0 b0 h0] at e2
  have ue := Int.emod_add_mul_ediv u c
  have um := Int.emod_nonneg u (Int.ne_of_gt c0)
  generalize cst b h (Int.gcd st b : Nat) (b * h / (Int.gcd st b : Nat)) s t l = X at *
  generalize cst b h (Int.gcd st b : Nat) (b * h / (Int.gcd st b : Nat)) s (u / c) l = Y at *
  have xy : X = Y := by
    rcases l1 with l1 | ⟨l1, _⟩
    · have := Int.lt_of_mul_lt_mul_left l1 (by omega)
      omega
    · exact (Int.eq_of_mul_eq_mul_left (by omega) l1).symm
  subst xy
  have ut : u ≤ t * c := by
    rcases l1 with l1 | ⟨_, l1⟩
    · omega
    · exact l1
  have tu : t ≤ u / c := by
    rcases l2 with l2 | ⟨_, l2⟩
    · omega
    · exact l2
  have : c * t ≤ c * (u / c) := Int.mul_le_mul_of_nonneg_left tu (by omega)
  rw [e2, Int.mul_comm c X]
  congr 2
  rw [Int.mul_comm] at this
  omega
/-! one house -/
theorem cst_one (st s sh : Int) : ∀ l : List I3, cst 1 1 (Int.gcd st 1 : Nat) (1 * 1 / (Int.gcd st 1 : Nat)) s sh l = 0
  | [] => rfl
  | (f, o, wt) :: l => by
    show wt * 1 * ph _ _ _ _ + cst _ _ _ _ _ _ _ = 0
    rw [cst_one st s sh l, Int.gcd_one_right]
    have : ph 1 ((1 : Nat) : Int) (1 * 1 / ((1 : Nat) : Int)) ((o + sh) / ((1 : Nat) : Int) - (f + s) / ((1 : Nat) : Int)) = 0 := by
      unfold ph near
      rw [show (1 : Int) * 1 / ((1 : Nat) : Int) = 1 by decide, Int.emod_one]
      decide
    rw [this]
    omega
theorem best_one {s st : Int} {l : List I3} (hw : ∀ x ∈ l, 0 ≤ x.2.2) : bestS 1 1 s st l = some (0, 0) := by
  obtain ⟨t, e, t0, t1, _⟩ := best_ex (b := 1) (h := 1) (s := s) (st := st) (by decide) (by decide) hw
  rw [e, cst_one]
  have : t = 0 := by omega
  rw [this]
/-! ### stretches -/
theorem met_far {W f1 n1 f2 n2 c : Int} (c0 : 0 < c) : met (W * c) (f1 * c) (n1 * c) (f2 * c) (n2 * c) = (met W f1 n1 f2 n2).map fun q => (q.1 * c, q.2 * c) := by
  unfold met
  have e : (f2 * c - f1 * c) % (W * c) = (f2 - f1) % W * c := by rw [← Int.sub_mul, Int.mul_comm (f2 - f1) c, Int.mul_comm W c, Int.mul_emod_mul_of_pos _ _ c0, Int.mul_comm]
  rw [e]
  generalize (f2 - f1) % W = a
  have lt : ∀ x y : Int, x * c < y * c ↔ x < y := fun x y => ⟨fun h => Int.lt_of_mul_lt_mul_right h (by omega), fun h => Int.mul_lt_mul_of_pos_right h c0⟩
  have s1 : n1 * c - a * c = (n1 - a) * c := (Int.sub_mul ..).symm
  have s2 : a * c + n2 * c - W * c = (a + n2 - W) * c := by rw [Int.sub_mul, Int.add_mul]
  have z : (0 : Int) = 0 * c := (Int.zero_mul c).symm
  rw [s1, s2]
  by_cases q : a < n1
  · rw [if_pos q, if_pos ((lt _ _).mpr q)]
    by_cases r : n2 < n1 - a
    · rw [if_pos r, if_pos ((lt _ _).mpr r)]; rfl
    · rw [if_neg r, if_neg (fun z => r ((lt _ _).mp z))]; rfl
  · rw [if_neg q, if_neg (fun z => q ((lt _ _).mp z))]
    by_cases r : 0 < a + n2 - W
    · rw [if_pos r, if_pos (by rw [z]; exact (lt _ _).mpr r)]
      by_cases t : n1 < a + n2 - W
      · rw [if_pos t, if_pos ((lt _ _).mpr t)]; rfl
      · rw [if_neg t, if_neg (fun z => t ((lt _ _).mp z))]; rfl
    · rw [if_neg r, if_neg (by rw [z]; exact fun q => r ((lt _ _).mp q))]; rfl
theorem stretch_far {b h s c : Int} (c0 : 0 < c) (b0 : 0 < b) (h0 : 0 < h) (a : I3) : stretch (b * c) h (s * c) (scl c true a) = ((stretch b h s a).1 * c, (stretch b h s a).2 * c) := by
  obtain ⟨f, o, st⟩ := a
  obtain ⟨k, hk, k0, g0, eR, eW, _⟩ := gcd_parts (st := st) (b := b) (h := h) b0 h0
  unfold stretch scl
  dsimp only
  rw [if_pos rfl, gcd_far c0]
  generalize ((Int.gcd st b : Nat) : Int) = g at *
  have : (f * c + s * c) / (g * c) = (f + s) / g := by rw [div_far c0 g0, Int.mul_ediv_cancel _ (by omega)]
  rw [this]
  congr 1
  rw [show g * c * ((f + s) / g) - o * c = c * (g * ((f + s) / g) - o) by grind, show b * c * h = c * (b * h) by grind, Int.mul_emod_mul_of_pos _ _ c0, Int.mul_comm]
abbrev scO (c : Int) : Option (Int × Int) → Option (Int × Int) := Option.map fun q => (q.1 * c, q.2 * c)
theorem step_far {b h s c : Int} (c0 : 0 < c) (b0 : 0 < b) (h0 : 0 < h) (o : Option (Int × Int)) (a : I3) : freeStep (b * c) h (s * c) (scO c o) (scl c true a) = scO c (freeStep b h s o a) := by
  cases o with
  | none => rfl
  | some q =>
    have e := stretch_far (s := s) c0 b0 h0 a
    have e1 : (stretch (b * c) h (s * c) (scl c true a)).1 = (stretch b h s a).1 * c := congrArg Prod.fst e
    have e2 : (stretch (b * c) h (s * c) (scl c true a)).2 = (stretch b h s a).2 * c := congrArg Prod.snd e
    show met (b * c * h) (q.1 * c) (q.2 * c) (stretch (b * c) h (s * c) (scl c true a)).1 (stretch (b * c) h (s * c) (scl c true a)).2 = scO c (met (b * h) q.1 q.2 (stretch b h s a).1 (stretch b h s a).2)
    rw [e1, e2, show b * c * h = b * h * c by grind]
    exact met_far c0
theorem fold_far {b h s c : Int} (c0 : 0 < c) (b0 : 0 < b) (h0 : 0 < h) : ∀ (l : List I3) (o : Option (Int × Int)), (l.map (scl c true)).foldl (freeStep (b * c) h (s * c)) (scO c o) = scO c (l.foldl (freeStep b h s) o)
  | [], o => rfl
  | a :: l, o => by rw [List.map_cons, List.foldl_cons, List.foldl_cons, step_far c0 b0 h0, fold_far c0 b0 h0 l]
theorem free_far {b h s c : Int} (c0 : 0 < c) (b0 : 0 < b) (h0 : 0 < h) : ∀ l : List I3, freeS (b * c) h (s * c) (l.map (scl c true)) = scO c (freeS b h s l)
  | [] => rfl
  | a :: l => by
    show (match (l.map (scl c true)).foldl (freeStep (b * c) h (s * c)) (some (stretch (b * c) h (s * c) (scl c true a))) with | some (f, m) => some (f % (b * c * h), m) | none => none) = scO c (match l.foldl (freeStep b h s) (some (stretch b h s a)) with | some (f, m) => some (f % (b * h), m) | none => none)
    rw [stretch_far c0 b0 h0, show some ((stretch b h s a).1 * c, (stretch b h s a).2 * c) = scO c (some (stretch b h s a)) from rfl, fold_far c0 b0 h0]
    cases l.foldl (freeStep b h s) (some (stretch b h s a)) with
    | none => rfl
    | some q =>
      obtain ⟨f, m⟩ := q
      show some ((f * c) % (b * c * h), m * c) = some (f % (b * h) * c, m * c)
      rw [show b * c * h = c * (b * h) by grind, Int.mul_comm f c, Int.mul_emod_mul_of_pos _ _ c0, Int.mul_comm]
/-- a shift is silent for a want -/
def sil (b h s : Int) (a : I3) (t : Int) : Prop := inI (b * h) (stretch b h s a).1 (stretch b h s a).2 t
theorem inI_mod {W f n t : Int} : inI W (f % W) n t ↔ inI W f n t := by
  unfold inI
  rw [Int.sub_emod, Int.emod_emod_of_dvd _ (Int.dvd_refl _), ← Int.sub_emod]
theorem fold_ok {b h s : Int} (b0 : 0 < b) (h2 : 2 ≤ h) : ∀ (l : List I3) (f n : Int), 1 ≤ n → n ≤ b → match l.foldl (freeStep b h s) (some (f, n)) with
    | some (g, k) => 1 ≤ k ∧ k ≤ b ∧ ∀ t, inI (b * h) g k t ↔ (inI (b * h) f n t ∧ ∀ a ∈ l, sil b h s a t)
    | none => ∀ t, ¬ (inI (b * h) f n t ∧ ∀ a ∈ l, sil b h s a t)
  | [], f, n, n0, n1 => ⟨n0, n1, fun t => ⟨fun h => ⟨h, fun _ m => nomatch m⟩, fun h => h.1⟩⟩
  | a :: l, f, n, n0, n1 => by
    obtain ⟨k, hk, k0, g0, eR, eW, gl⟩ := gcd_parts (st := a.2.2) (b := b) (h := h) b0 (by omega)
    have W2 : b * 2 ≤ b * h := Int.mul_le_mul_of_nonneg_left h2 (by omega)
    have m := met_ok (W := b * h) (f1 := f) (n1 := n) (f2 := (stretch b h s a).1) (n2 := (stretch b h s a).2) (by omega) n0 (show 1 ≤ ((Int.gcd a.2.2 b : Nat) : Int) by omega) (show n + ((Int.gcd a.2.2 b : Nat) : Int) ≤ b * h by omega)
    rw [List.foldl_cons]
    show match l.foldl (freeStep b h s) (met (b * h) f n (stretch b h s a).1 (stretch b h s a).2) with
      | some (g, k) => _
      | none => _
    cases e : met (b * h) f n (stretch b h s a).1 (stretch b h s a).2 with
    | none =>
      rw [e] at m
      have z : ∀ l, List.foldl (freeStep b h s) none l = none := fun l => by
        induction l with
        | nil => rfl
        | cons _ l ih => exact ih
      rw [z]
      intro t ⟨h1, h2⟩
      exact m t ⟨h1, h2 a (List.mem_cons_self ..)⟩
    | some q =>
      obtain ⟨g, j⟩ := q
      rw [e] at m
      obtain ⟨m1, m2, m3, m4⟩ := m
      have ih := fold_ok (s := s) b0 h2 l g j m1 (by omega)
      cases e2 : l.foldl (freeStep b h s) (some (g, j)) with
      | none =>
        rw [e2] at ih
        intro t ⟨h1, h2⟩
        exact ih t ⟨(m4 t).mpr ⟨h1, h2 a (List.mem_cons_self ..)⟩, fun x hx => h2 x (List.mem_cons_of_mem _ hx)⟩
      | some q =>
        obtain ⟨g2, j2⟩ := q
        rw [e2] at ih
        obtain ⟨i1, i2, i3⟩ := ih
        refine ⟨i1, i2, fun t => ⟨fun h => ?_, fun h => ?_⟩⟩
        · obtain ⟨h1, h2⟩ := (i3 t).mp h
          obtain ⟨h3, h4⟩ := (m4 t).mp h1
          refine ⟨h3, fun x hx => ?_⟩
          rcases List.mem_cons.mp hx with rfl | hx
          · exact h4
          · exact h2 x hx
        · exact (i3 t).mpr ⟨(m4 t).mpr ⟨h.1, h.2 a (List.mem_cons_self ..)⟩, fun x hx => h.2 x (List.mem_cons_of_mem _ hx)⟩
theorem free_ok {b h s : Int} (b0 : 0 < b) (h2 : 2 ≤ h) {l : List I3} (ne : l ≠ []) : match freeS b h s l with
    | some (g, k) => 0 ≤ g ∧ g < b * h ∧ 1 ≤ k ∧ k ≤ b ∧ ∀ t, inI (b * h) g k t ↔ ∀ a ∈ l, sil b h s a t
    | none => ∀ t, ¬ ∀ a ∈ l, sil b h s a t := by
  cases l with
  | nil => exact absurd rfl ne
  | cons a l =>
    obtain ⟨k, hk, k0, g0, eR, eW, gl⟩ := gcd_parts (st := a.2.2) (b := b) (h := h) b0 (by omega)
    have W0 := Int.mul_pos b0 (show 0 < h by omega)
    have ih := fold_ok (s := s) b0 h2 l (stretch b h s a).1 (stretch b h s a).2 (show 1 ≤ ((Int.gcd a.2.2 b : Nat) : Int) by omega) (show ((Int.gcd a.2.2 b : Nat) : Int) ≤ b from gl)
    show match (match l.foldl (freeStep b h s) (some (stretch b h s a)) with | some (f, m) => some (f % (b * h), m) | none => none) with
      | some (g, k) => _
      | none => _
    have all : ∀ t, (sil b h s a t ∧ ∀ x ∈ l, sil b h s x t) ↔ ∀ x ∈ a :: l, sil b h s x t := fun t => by
      constructor
      · rintro ⟨h1, h2⟩ x hx
        rcases List.mem_cons.mp hx with rfl | hx
        · exact h1
        · exact h2 x hx
      · exact fun h => ⟨h a (List.mem_cons_self ..), fun x hx => h x (List.mem_cons_of_mem _ hx)⟩
    cases e : l.foldl (freeStep b h s) (some (stretch b h s a)) with
    | none =>
      rw [show some (stretch b h s a) = some ((stretch b h s a).1, (stretch b h s a).2) from rfl] at e
      rw [e] at ih
      intro t z
      exact ih t ((all t).mpr z)
    | some q =>
      obtain ⟨g, j⟩ := q
      rw [show some (stretch b h s a) = some ((stretch b h s a).1, (stretch b h s a).2) from rfl] at e
      rw [e] at ih
      obtain ⟨i1, i2, i3⟩ := ih
      refine ⟨Int.emod_nonneg _ (by omega), Int.emod_lt_of_pos _ W0, i1, i2, fun t => ?_⟩
      rw [inI_mod, i3 t]
      exact all t
end K27
namespace K27
open PySem L2 DS VL MT
/-! the law's own lists -/
instance {W f n t : Int} : Decidable (inI W f n t) := by unfold inI; infer_instance
theorem near_zero {w R : Int} (w0 : 0 ≤ w) (w1 : w < R) : near w R = 0 ↔ w = 0 := by
  unfold near
  split <;> omega
theorem near_nn {w R : Int} (w0 : 0 ≤ w) (w1 : w < R) : 0 ≤ near w R := by
  unfold near
  split <;> omega
theorem sent_nn {b h m : Int} (a : I3) (st sh : Int) : 0 ≤ sent b h m a st sh := by
  unfold sent
  generalize (b * h).toNat = N
  induction N with
  | zero => exact Int.le_refl 0
  | succ n ih =>
    have : 0 ≤ dH b h (a.1 + m) (a.2.1 + sh) st (n : Nat) := by unfold dH; split <;> omega
    show 0 ≤ sm _ n + dH b h (a.1 + m) (a.2.1 + sh) st (n : Nat)
    omega
theorem sent_zero {b h m : Int} (b0 : 0 < b) (h2 : 2 ≤ h) (a : I3) (sh : Int) : sent b h m a a.2.2 sh = 0 ↔ sil b h (m % (b * h)) a sh := by
  obtain ⟨k, hk, k0, g0, eR, eW, _⟩ := gcd_parts (st := a.2.2) (b := b) (h := h) b0 (by omega)
  have R0 : 0 < b * h / (Int.gcd a.2.2 b : Nat) := by rw [eR]; exact Int.mul_pos k0 (by omega)
  have one := cst_sum (m := m) b0 h2 a.2.2 sh [(a.1, a.2.1, 1)]
  have e1 : cst b h (Int.gcd a.2.2 b : Nat) (b * h / (Int.gcd a.2.2 b : Nat)) (m % (b * h)) sh [(a.1, a.2.1, 1)] = 1 * h * ph b (Int.gcd a.2.2 b : Nat) (b * h / (Int.gcd a.2.2 b : Nat)) ((a.2.1 + sh) / (Int.gcd a.2.2 b : Nat) - (a.1 + m % (b * h)) / (Int.gcd a.2.2 b : Nat)) + 0 := rfl
  have e2 : ([(a.1, a.2.1, (1 : Int))].map fun x : I3 => x.2.2 * sent b h m x a.2.2 sh).sum = sent b h m a a.2.2 sh := by
    show 1 * sent b h m (a.1, a.2.1, 1) a.2.2 sh + 0 = _
    rw [Int.one_mul, Int.add_zero]
    rfl
  rw [e2] at one
  rw [← one, e1]
  have sp : sil b h (m % (b * h)) a sh ↔ ((a.2.1 + sh) / (Int.gcd a.2.2 b : Nat) - (a.1 + m % (b * h)) / (Int.gcd a.2.2 b : Nat)) % (b * h / (Int.gcd a.2.2 b : Nat)) = 0 := by
    have := silent_iff (p := (Int.gcd a.2.2 b : Nat)) (R := b * h / (Int.gcd a.2.2 b : Nat)) (o := a.2.1) (t := sh) (c := (a.1 + m % (b * h)) / (Int.gcd a.2.2 b : Nat)) g0 R0
    rw [this, eR, eW]
    exact Iff.rfl
  rw [sp]
  generalize (a.2.1 + sh) / ((Int.gcd a.2.2 b : Nat) : Int) - (a.1 + m % (b * h)) / (Int.gcd a.2.2 b : Nat) = w
  generalize hR : b * h / ((Int.gcd a.2.2 b : Nat) : Int) = R at *
  generalize ((Int.gcd a.2.2 b : Nat) : Int) = g at *
  have w0 := Int.emod_nonneg w (Int.ne_of_gt R0)
  have w1 := Int.emod_lt_of_pos w R0
  rw [← near_zero w0 w1]
  have nn := near_nn w0 w1
  unfold ph
  generalize near (w % R) R = N at *
  constructor
  · intro z
    rw [Int.one_mul, Int.add_zero] at z
    rcases Int.mul_eq_zero.mp z with z | z
    · omega
    · split at z
      · omega
      · rcases Int.mul_eq_zero.mp z with z | z
        · omega
        · exact z
  · rintro rfl
    rw [Int.mul_zero, if_neg (by omega)]
    omega
theorem sum_zero : ∀ {L : List Int}, (∀ x ∈ L, 0 ≤ x) → (L.sum = 0 ↔ ∀ x ∈ L, x = 0)
  | [], _ => ⟨(fun _ _ m => nomatch m), fun _ => rfl⟩
  | x :: L, h => by
    have ih := sum_zero (L := L) fun y m => h y (List.mem_cons_of_mem _ m)
    have x0 := h x (List.mem_cons_self ..)
    have s0 : 0 ≤ L.sum := by
      clear ih
      induction L with
      | nil => exact Int.le_refl 0
      | cons y L ih =>
        rw [List.sum_cons]
        have := h y (List.mem_cons_of_mem _ (List.mem_cons_self ..))
        have := ih (fun z m => h z (by rcases List.mem_cons.mp m with rfl | m; exact List.mem_cons_self ..; exact List.mem_cons_of_mem _ (List.mem_cons_of_mem _ m)))
        omega
    rw [List.sum_cons]
    constructor
    · intro z y m
      rcases List.mem_cons.mp m with rfl | m
      · omega
      · exact (ih.mp (by omega)) y m
    · intro z
      have := z x (List.mem_cons_self ..)
      have := ih.mpr fun y m => z y (List.mem_cons_of_mem _ m)
      omega
/-- the sum of what is sent at a shift is 0 just if all are silent -/
theorem silent_sum {b h m : Int} (b0 : 0 < b) (h2 : 2 ≤ h) (l : List I3) (sh : Int) : (l.map fun a => sent b h m a a.2.2 sh).sum = 0 ↔ ∀ a ∈ l, sil b h (m % (b * h)) a sh := by
  rw [sum_zero (fun x hx => by obtain ⟨a, _, rfl⟩ := List.mem_map.mp hx; exact sent_nn ..)]
  constructor
  · exact fun z a ma => (sent_zero b0 h2 a sh).mp (z _ (List.mem_map.mpr ⟨a, ma, rfl⟩))
  · intro z x hx
    obtain ⟨a, ma, rfl⟩ := List.mem_map.mp hx
    exact (sent_zero b0 h2 a sh).mpr (z a ma)
/-- the silent shifts below j -/
def sl (P : Int → Bool) : Nat → List Int
  | 0 => []
  | j + 1 => if P j then sl P j ++ [(j : Int)] else sl P j
theorem mem_sl {P : Int → Bool} {x : Int} : ∀ {j : Nat}, x ∈ sl P j ↔ 0 ≤ x ∧ x < j ∧ P x = true
  | 0 => ⟨(fun m => nomatch m), fun h => by omega⟩
  | j + 1 => by
    show x ∈ (if P j then sl P j ++ [(j : Int)] else sl P j) ↔ _
    by_cases c : P j = true
    · rw [if_pos c, List.mem_append, mem_sl (j := j), List.mem_singleton]
      constructor
      · rintro (⟨h1, h2, h3⟩ | rfl)
        · exact ⟨h1, by omega, h3⟩
        · exact ⟨by omega, by omega, c⟩
      · rintro ⟨h1, h2, h3⟩
        by_cases q : x = j
        · exact .inr q
        · exact .inl ⟨h1, by omega, h3⟩
    · rw [if_neg c, mem_sl (j := j)]
      constructor
      · rintro ⟨h1, h2, h3⟩
        exact ⟨h1, by omega, h3⟩
      · rintro ⟨h1, h2, h3⟩
        refine ⟨h1, ?_, h3⟩
        have : x ≠ j := fun z => c (by rw [← z]; exact h3)
        omega
theorem len_sl {P : Int → Bool} : ∀ j : Nat, ((sl P j).length : Int) = sm (fun i => if P i then 1 else 0) j
  | 0 => rfl
  | j + 1 => by
    show (((if P j then sl P j ++ [(j : Int)] else sl P j).length : Nat) : Int) = sm _ j + (if P (j : Nat) then 1 else 0)
    rw [← len_sl j]
    by_cases c : P j = true
    · rw [if_pos c, if_pos c, List.length_append]; rfl
    · rw [if_neg c, if_neg c]; omega
theorem sl_congr {P P' : Int → Bool} (h : ∀ x, P x = P' x) : ∀ j, sl P j = sl P' j
  | 0 => rfl
  | j + 1 => by
    show (if P j then sl P j ++ [(j : Int)] else sl P j) = (if P' j then sl P' j ++ [(j : Int)] else sl P' j)
    rw [h, sl_congr h j]
theorem sl_lenle {P : Int → Bool} : ∀ j, (sl P j).length ≤ j
  | 0 => Nat.le_refl 0
  | j + 1 => by
    have := sl_lenle (P := P) j
    show (if P j then sl P j ++ [(j : Int)] else sl P j).length ≤ j + 1
    split
    · rw [List.length_append]; simp; omega
    · omega
theorem sm_below {n : Int} : ∀ {W : Nat}, 0 ≤ n → n ≤ W → sm (fun i => if (i : Int) < n then 1 else 0) W = n
  | 0, h0, h1 => by show (0 : Int) = n; omega
  | W + 1, h0, h1 => by
    show sm _ W + (if (W : Int) < n then 1 else 0) = n
    by_cases c : (W : Int) < n
    · rw [if_pos c]
      have : n = W + 1 := by omega
      subst this
      rw [sm_congr (g := fun _ => 1) (fun i hi => by rw [if_pos (by omega)]), sm_const]
      omega
    · rw [if_neg c, sm_below h0 (by omega)]
      omega
/-- a stretch of a ring has so many members -/
theorem len_stretch {W : Nat} {f n : Int} (W0 : 0 < W) (n0 : 0 ≤ n) (n1 : n ≤ W) : ((sl (fun t => decide (inI W f n t)) W).length : Int) = n := by
  rw [len_sl]
  let g : Int → Int := fun t => if t % W < n then 1 else 0
  have per : Per g W := fun z w ⟨k, hk⟩ => by
    show (if _ then _ else _) = (if _ then _ else _)
    rw [show z = w + W * k by omega, Int.add_mul_emod_self_left]
  have e : sm (fun i => if decide (inI W f n (i : Int)) = true then (1 : Int) else 0) W = sm (fun i => g ((i : Int) + -f)) W := sm_congr fun i _ => by
    show (if _ then _ else _) = (if _ then _ else _)
    unfold inI
    rw [show (i : Int) + -f = i - f by omega]
    by_cases c : ((i : Int) - f) % W < n
    · rw [if_pos c, if_pos (decide_eq_true c)]
    · rw [if_neg c, if_neg (by rw [decide_eq_false c]; decide)]
  rw [e, sm_shift per]
  rw [sm_congr (g := fun i => if (i : Int) < n then 1 else 0) (fun i hi => by
    show (if _ then _ else _) = _
    rw [Int.emod_eq_of_lt (by omega) (by omega)])]
  exact sm_below n0 n1
/-- the first one of a stretch is just the one whose neighbour is not in it -/
theorem first_iff {W : Nat} {f n t : Int} (f0 : 0 ≤ f) (f1 : f < W) (n1 : n < W) (t0 : 0 ≤ t) (t1 : t < W) (ht : inI W f n t) : ((t - 1) % W ∉ sl (fun t => decide (inI W f n t)) W) ↔ t = f := by
  have W0 : (0 : Int) < W := by omega
  rw [mem_sl]
  have m0 := Int.emod_nonneg (t - 1) (Int.ne_of_gt W0)
  have m1 := Int.emod_lt_of_pos (t - 1) W0
  have e : inI W f n ((t - 1) % W) ↔ (t - f - 1) % W < n := by
    unfold inI
    rw [Int.sub_emod, Int.emod_emod_of_dvd _ (Int.dvd_refl _), ← Int.sub_emod, show t - 1 - f = t - f - 1 by omega]
  have q : ¬ (0 ≤ (t - 1) % (W : Int) ∧ (t - 1) % W < W ∧ decide (inI W f n ((t - 1) % W)) = true) ↔ ¬ (t - f - 1) % (W : Int) < n := by
    rw [decide_eq_true_iff, e]
    constructor
    · exact fun h z => h ⟨m0, m1, z⟩
    · exact fun h ⟨_, _, z⟩ => h z
  rw [q]
  have ht : (t - f) % W < n := ht
  rcases Int.lt_or_le t f with c | c
  · have a1 : (t - f) % W = t - f + W := by
      rw [← Int.add_emod_right]
      exact Int.emod_eq_of_lt (by omega) (by omega)
    have a2 : (t - f - 1) % W = t - f - 1 + W := by
      rw [← Int.add_emod_right]
      exact Int.emod_eq_of_lt (by omega) (by omega)
    rw [a1] at ht
    rw [a2]
    omega
  · have a1 : (t - f) % W = t - f := Int.emod_eq_of_lt (by omega) (by omega)
    rw [a1] at ht
    by_cases c2 : t = f
    · have a2 : (t - f - 1) % W = W - 1 := by
        rw [← Int.add_emod_right]
        rw [Int.emod_eq_of_lt (by omega) (by omega)]
        omega
      rw [a2]
      omega
    · rw [Int.emod_eq_of_lt (by omega) (by omega)]
      omega
end K27
namespace K27
open PySem L2 DS VL MT
def keepF (W : Int) (S : List Int) (x : Int) : Bool := decide ((x - 1) % W ∉ S) || decide ((S.length : Int) = W)
theorem head_of {α : Type} {L : List α} {p : α → Bool} {x : α} (m : x ∈ L) (h : p x = true) : ∃ y r, L.filter p = y :: r ∧ y ∈ L ∧ p y = true := by
  have : x ∈ L.filter p := List.mem_filter.mpr ⟨m, h⟩
  cases e : L.filter p with
  | nil => rw [e] at this; cases this
  | cons y r =>
    have : y ∈ L.filter p := by rw [e]; exact List.mem_cons_self ..
    obtain ⟨h1, h2⟩ := List.mem_filter.mp this
    exact ⟨y, r, rfl, h1, h2⟩
theorem sl_full {P : Int → Bool} (h : ∀ x, P x = true) : ∀ j, (sl P j).length = j
  | 0 => rfl
  | j + 1 => by
    show (if P j then sl P j ++ [(j : Int)] else sl P j).length = j + 1
    rw [if_pos (h _), List.length_append, sl_full h j]
    rfl
theorem silent_case {b h m : Int} {l : List I3} {S : List Int} (b0 : 0 < b) (h0 : 0 < h) (ne : l ≠ []) (hS : S = sl (fun t => decide ((l.map fun a => sent b h m a a.2.2 t).sum = 0)) (b * h).toNat) :
    (S = [] → 2 ≤ h → freeS b h (m % (b * h)) l = none) ∧ (S ≠ [] → ∃ x r, S.filter (keepF (b * h) S) = x :: r ∧ (2 ≤ h → freeS b h (m % (b * h)) l = some (x, ((S.length : Nat) : Int)))) := by
  have W0 := Int.mul_pos b0 h0
  have hW : (((b * h).toNat : Nat) : Int) = b * h := by omega
  by_cases h2 : 2 ≤ h
  · have fo := free_ok (s := m % (b * h)) b0 h2 ne
    have b2 : b * 2 ≤ b * h := Int.mul_le_mul_of_nonneg_left h2 (by omega)
    cases e : freeS b h (m % (b * h)) l with
    | none =>
      rw [e] at fo
      have : S = [] := by
        rw [hS]
        refine List.eq_nil_iff_forall_not_mem.mpr fun x hx => ?_
        obtain ⟨x0, x1, hp⟩ := mem_sl.mp hx
        exact fo x ((silent_sum b0 h2 l x).mp (of_decide_eq_true hp))
      exact ⟨fun _ _ => rfl, fun z => absurd this z⟩
    | some q =>
      obtain ⟨f, k⟩ := q
      rw [e] at fo
      obtain ⟨f0, f1, k0, k1, hi⟩ := fo
      have eS : S = sl (fun t => decide (inI (b * h) f k t)) (b * h).toNat := by
        rw [hS]
        refine sl_congr (fun t => dec_congr ?_) _
        rw [silent_sum b0 h2 l t, hi t]
      have eS2 : S = sl (fun t => decide (inI ((b * h).toNat : Nat) f k t)) (b * h).toNat := by
        rw [eS]
        refine sl_congr (fun t => dec_congr ?_) _
        rw [hW]
      have len : (S.length : Int) = k := by
        rw [eS2]
        exact len_stretch (by omega) (by omega) (by omega)
      have fm : f ∈ S := by
        rw [eS]
        refine mem_sl.mpr ⟨f0, by omega, decide_eq_true ?_⟩
        unfold inI
        rw [Int.sub_self, Int.zero_emod]
        omega
      have fst : ∀ x ∈ S, keepF (b * h) S x = true ↔ x = f := fun x hx => by
        have hx' := hx
        rw [eS2] at hx'
        obtain ⟨x0, x1, hp⟩ := mem_sl.mp hx'
        have := first_iff (W := (b * h).toNat) (f := f) (n := k) (t := x) f0 (by omega) (by omega) x0 x1 (of_decide_eq_true hp)
        rw [← eS2, hW] at this
        unfold keepF
        rw [len, decide_eq_false (show ¬ k = b * h by omega), Bool.or_false, decide_eq_true_iff]
        exact this
      refine ⟨fun z => absurd fm (by rw [z]; exact fun q => nomatch q), fun _ => ?_⟩
      obtain ⟨y, r, e1, y1, y2⟩ := head_of fm ((fst f fm).mpr rfl)
      have : y = f := (fst y y1).mp y2
      subst this
      exact ⟨y, r, e1, fun _ => by rw [len]⟩
  · have h1 : h = 1 := by omega
    subst h1
    refine ⟨fun _ z => absurd z h2, fun z => ?_⟩
    have len : S.length = (b * 1).toNat := by
      rw [hS]
      refine sl_full (fun x => decide_eq_true ?_) _
      rw [sum_zero (fun x hx => by obtain ⟨a, _, rfl⟩ := List.mem_map.mp hx; exact sent_nn ..)]
      intro x hx
      obtain ⟨a, _, rfl⟩ := List.mem_map.mp hx
      exact sent_one ..
    cases S with
    | nil => exact absurd rfl z
    | cons x S =>
      obtain ⟨y, r, e1, _, _⟩ := head_of (L := x :: S) (p := keepF (b * 1) (x :: S)) (x := x) (List.mem_cons_self ..) (by
        unfold keepF
        rw [Bool.or_eq_true]
        right
        refine decide_eq_true ?_
        rw [len]
        exact hW)
      exact ⟨y, r, e1, fun z => absurd z h2⟩
end K27
namespace K27
open PySem L2 DS VL MT NdefX
set_option pp.maxSteps 2000
local macro_rules | `(tactic| walk_at "v") => `(tactic| try dsimp only [vNext, vSeq, vBreak, vCont, vDrop, vRet, vRetN, vIfS, vSet, vFrz, frz, frzS, vSetOL, gNm, VL.gNil, VL.gCons, gTupN, vAsg, parQ, vPar, par3Q, vPar3, vFor, iLst, lstQ, VL.iTup, tupQ, VL.iRng1, rng1Q, VL.iRng2, rng2Q, vVar, vv, gt, vC, vOp, vUn, vI, vI0, vU, vEqS, isNonT, isNQ, vIsN, vbl, vIf, vAndV, vOrV, vNotV, vChain, vTest, vNot, vYes, vNo, vAnd, vOr, vNil, vCons, vTup, vLst, lkQ, fldC, vFldC, fldO, vFldO, vCall, methQ, vMeth, vMake, vBinII, vBinIZ, vNegOwn, vEqII, ends, endsI, oiQ, startT, startI, vCB, cInt, cAbs, c2I, cDivmod, cLen, cList, cTuple, cSum, cAll, cAny, cSorted, ixL, ixT, ixQ, oNone, oiQ2, oSome, slQ, vSlL, vCat, truT, truQ, vTru, augQ, augS, vAug, isBt, isQ, cIsB, isCQ, cIsC, isSeq, vIsSeq, vEqD, inSQ, vIn, appQ, vApp, setK, setQ, vSetI, popK, popQ, vPop, olQ, vLenO, vIxO, vTruO, fsQ, vFldS, putT, self2P, self2Q, vSelf2, vLc, wipeT, vNever, revQ, vRev, vParO, vRaise1, toldQ, vToldA, hide, hideS, vParO2, gSeqN, seqV, iSeqV, vLtT, ixoQ, vIndex, defQ, vCallL2, ixS, vToldM, inIQ, vInI, ite_tt, ite_ft, List.set, List.map, List.length, List.append, List.replicate, List.drop, List.nil_append, List.cons_append, List.append_nil, Nat.sub_self, Nat.reduceSub, List.replicate_zero, List.replicate_succ, Nat.reduceAdd, Bool.not_true, Bool.not_false, brE_true, brE_false, brT_true, brT_false, brS_true, brS_false, Bt.nm, vdraw, vpick, vten, vbegin, sp_is_integer, sp_is_whole, sp_need_integer, sp_need_positive, sp_need_step, sp_need_items, sp_is_step, dealT, sp_common_factor, sp_Deal___init__, sp_need_deal, sp_met, sp_need_wants, sp_cost_at, sp_tried_shifts, sp_shift_cost, sp_best_shift, sp_free_shifts, sp__law_great, sp__law_sent, sp__law_cost, sp__law_step, sp__law_wants, sp__law_scaled, sp__law_refused_right, sp__law_free_right, sp__law_best_right, fl_Deal_houses, pt_Deal_houses, fl_Deal_block, pt_Deal_block, fq_Deal_1_0, fl_Deal_shift, pt_Deal_shift, fq_Deal_2_0, fq_Deal_2_1])
local macro_rules | `(tactic| walk_at "b") => `(tactic| first
  | with_reducible assumption
  | exact B.lit (k := 70) (by decide)
  | exact B.add (by walk_at "b") (by walk_at "b")
  | exact B.sub (by walk_at "b") (by walk_at "b")
  | exact B.neg (by walk_at "b")
  | exact B.mul (by walk_at "b") (by walk_at "b")
  | exact B.div (by walk_at "b")
  | exact B.mod (by walk_at "b") (by omega)
  | exact B.ite (by walk_at "b") (by walk_at "b")
  | exact B.ten _)
local macro_rules | `(tactic| walk_at "bb") => `(tactic| (with_reducible show B _ _; exact B.mono (by walk_at "b") (by first | decide | omega)))
local macro_rules | `(tactic| walk_at "sc") => `(tactic| first
  | with_reducible assumption
  | (with_reducible show (_ : Int) < 2 ^ 200; first | assumption | exact lt200 (by omega))
  | rfl
  | (show CMulA _ _; first | exact CMulA.s1 (by omega) (by omega) | exact CMulA.s2 (by omega) (by omega) | exact cmula (by walk_at "b") (by walk_at "b") (by first | decide | omega))
  | (show CDivW _ _; exact cdivw (by omega) (by walk_at "b") (by first | decide | omega))
  | (show CPow _ _; exact ⟨by decide, by decide, by decide⟩)
  | walk_at "bb"
  | omega
  | exact Nat.le_of_ble_eq_true rfl)
local macro_rules | `(tactic| walk_at "w") => `(tactic| (walk_at "v"; repeat ((first | refine And.intro (by walk_at "sc") ?_ | (with_reducible show Exists fun t => And (atI _ _ = some t) _; refine Exists.intro _ (And.intro rfl ?_))); walk_at "v")))

section
variable {P : Program} {w : World} {K : PySem.W.Frag} {mg : Str → Option Value} {base : Heap}
theorem isWs_l (l : List I3) : isWs (.lst (l.map w3)) l := ⟨_, .inl rfl, RL.map (fun a => .inr rfl) l⟩
theorem bw_of {l : List I3} (ow : OkW l) : BW l := ⟨by have := ow.len; omega, fun a m => B.small (by have := ow.a0 a m; omega) (by have := ow.a0 a m; omega), fun a m => B.small (by have := ow.a1 a m; omega) (by have := ow.a1 a m; omega), fun a m => B.small (by have := ow.a2 a m; omega) (by have := ow.a2 a m; omega)⟩
theorem okd_of {b h m : Int} (ok : OkL b h m) : OkD (nb b h) h (m % (nb b h * h)) := by
  have n0 : 0 < nb b h ∧ nb b h ≤ 5 := by
    have := ok.b0
    have := ok.b1
    unfold nb
    split <;> omega
  have W := bh20 n0.1 n0.2 ok.h0 ok.h1
  have m0 := Int.emod_nonneg m (Int.ne_of_gt W.1)
  have m1 := Int.emod_lt_of_pos m W.1
  have := ok.h0
  have := ok.h1
  exact ⟨n0.1, ok.h0, m0, B.small (by omega) (by omega), B.small (by omega) (by omega), B.small (by omega) (by omega)⟩
theorem brS_nx {k : Bool} {A B : RS} {D : VEnds} {n : Nat} {ρ : List Sl} (I : Nat → List Sl → Prop) (h1 : ∀ K, (∀ n ρ, I n ρ → K n ρ) → brS k A B { D with nx := K } n ρ) (h2 : ∀ n ρ, I n ρ → D.nx n ρ) : brS k A B D n ρ := h1 D.nx h2
theorem brE_same {p : Prop} [Decidable p] {t u : RE} {X : Tr} {n : Nat} {ρ : List Sl} {Q : VQ} (h1 : p → ∀ R : VQ, R X n → t n ρ R) (h2 : ¬ p → ∀ R : VQ, R X n → u n ρ R) (q : Q X n) : brE (decide p) t u n ρ Q := brE_d (fun z => h1 z Q q) (fun z => h2 z Q q)
theorem filt_ints (p : Int → Bool) (q : Tr → Bool) (h : ∀ x, q (.int x) = p x) : ∀ S : List Int, ((S.map Tr.int).filter q).map (fun t => t) = (S.filter p).map Tr.int
  | [] => rfl
  | x :: S => by
    have ih := filt_ints p q h S
    rw [List.map_cons, List.filter_cons, List.filter_cons, h]
    split
    · rw [List.map_cons, List.map_cons, ih]
    · exact ih
theorem atI_zero {α : Type} (x : α) (r : List α) : atI (x :: r) 0 = some x := by
  unfold atI ixN
  rw [if_pos (by decide), if_pos (by rw [List.length_cons]; omega)]
  rfl
theorem isWs_f {l : List I3} : isWs (.tup (l.map fun a => .lst [.int a.1, .int a.2.1, .int a.2.2])) l := ⟨_, .inr rfl, RL.map (fun a => .inl rfl) l⟩
theorem bs {k : Nat} {x : Int} (h : x.natAbs < 2 ^ k) : B k x := h
theorem bw_far {l : List I3} {c : Int} (ow : OkW l) (cB : B 121 c) (s : Bool) : BW (l.map (scl c s)) := by
  have one : ∀ x : Int, -20 ≤ x → x ≤ 20 → B 150 (x * c) := fun x h0 h1 => ((bs (k := 5) (by show x.natAbs < 32; omega)).mul cB).mono (by decide)
  refine ⟨by rw [List.length_map]; have := ow.len; omega, fun a m => ?_, fun a m => ?_, fun a m => ?_⟩
  all_goals
    obtain ⟨x, mx, rfl⟩ := List.mem_map.mp m
    have a0 := ow.a0 x mx
    have a1 := ow.a1 x mx
    have a2 := ow.a2 x mx
  · exact one _ (by omega) (by omega)
  · exact one _ (by omega) (by omega)
  · show B 150 (if s = true then x.2.2 * c else x.2.2)
    split
    · exact one _ (by omega) (by omega)
    · exact B.small (by omega) (by omega)
theorem okd_far {b h m c : Int} (ok : OkL b h m) (c0 : 0 < c) (cB : B 121 c) : 0 < b * c ∧ B 130 (b * c) ∧ OkD (nb (b * c) h) h ((m * c) % (nb (b * c) h * h)) := by
  have b0 := ok.b0
  have b1 := ok.b1
  have h0 := ok.h0
  have h1 := ok.h1
  have bc0 := Int.mul_pos b0 c0
  have bcB : B 130 (b * c) := ((bs (k := 4) (by show b.natAbs < 16; omega)).mul cB).mono (by decide)
  have hB : B 4 h := bs (by show h.natAbs < 16; omega)
  have n0 : 0 < nb (b * c) h ∧ B 130 (nb (b * c) h) := by
    unfold nb
    split
    · exact ⟨bc0, bcB⟩
    · exact ⟨by omega, B.small (by omega) (by omega)⟩
  have W0 := Int.mul_pos n0.1 h0
  have WB : B 150 (nb (b * c) h * h) := (n0.2.mul hB).mono (by decide)
  exact ⟨bc0, bcB, n0.1, h0, Int.emod_nonneg _ (by omega), n0.2.mono (by decide), hB.mono (by decide), B.mod WB W0⟩
theorem ok__law_free_right (T : Tx w K mg) : FnOk PR w K mg base (L2.CX PR w) 7 T.f__law_free_right T.fd__law_free_right ["_law_pen_here", "_law_deal", "_law_times"] (lSp (gK T) 3 (sp__law_free_right T)) := by
  refine ok_v (fun _ l b => T.F__law_free_right.okX sc__law_free_right l b) rfl (fun cdv A outer s H E F0 xq hr => ?_)
  refine ⟨_, (vss_cons (vs_asg (vs := [3, 4]) (ve_tup (va_cons (ve_call (ok__law_wants T) (hr.mono (by decide)) (by rfl) T.g__law_wants T.F__law_wants.kp T.b__law_wants .nil (fun _ => .nil) hx_of (va_cons (vpv 0) (va_cons ve_str va_nil))) (va_cons (ve_op ov_mul (ve_ix (iv_tup rfl) (vpv 1) ve_int (fun _ _ => rfl)) (ve_ix (iv_tup rfl) (vpv 1) ve_int (fun _ _ => rfl))) va_nil))) (vg_tup (m := 2) rfl rfl (vgs_cons (vg_name (i := 3) (by decide) sc__law_free_right.nd rfl (Or.inl rfl)) (vgs_cons (vg_name (i := 4) (by decide) sc__law_free_right.nd rfl (Or.inr rfl)) vgs_nil))))
      (vss_cons (vs_asgO2 (i := 5) (j := 6) (ps_asg (pe_tup (pa_cons ve_non (pa_cons (pe_lst va_nil) pa_nil))) (pg_tup rfl (pgs_cons (pg_name (i := 5) sc__law_free_right.nd rfl (Or.inl rfl)) (pgs_cons (pg_name (i := 6) sc__law_free_right.nd rfl (Or.inr rfl)) pgs_nil)))))
      (vss_cons (vs_for (vs := [7]) own_of rfl (vi_range1 (by rfl) T.z_range (va_cons (vpv 4) va_nil)) (vg_name (i := 7) (by decide) sc__law_free_right.nd rfl (Or.inr rfl))
      (vss_one (vs_if (vt_cmp ov_eqS (ve_callB (cv_sum rfl) (by rfl) T.z_sum (by decide +kernel) (va_cons (ve_lc (own := [("_law_want", 11)]) rfl sc__law_free_right.nd (vi_list rfl (vpv 3)) (blkOk_by (N := N__law_free_right) (sc := defScope s__law_free_right) (by decide +kernel)) (fun _ _ _ _ _ => (vg_name (i := 11) (by decide) sc__law_free_right.nd rfl (.inl rfl))) (fun _ _ _ _ _ => vts_nil) (fun _ _ _ _ _ => (ve_call (ok__law_sent T) (hr.mono (by decide)) (by rfl) T.g__law_sent T.F__law_sent.kp T.b__law_sent .nil (fun _ => .nil) passes_no (va_cons (vpv 1) (va_cons (vpv 11) (va_cons (ve_ix (iv_tup rfl) (vpv 11) ve_int (fun _ _ => rfl)) (va_cons (vpv 7) va_nil))))))) va_nil)) ve_int (nomark _)) (vss_one (vs_app (i := 6) (ps_expr (pe_bm PySem.F.plainAttrs_list PySem.F.slot_list_append PySem.F.type_list_append mt_append (pv 6) (pa_cons (vpv 7) pa_nil))))) vss_nil)))
      (vss_frz 6 (vss_cons (vs_if (vt_cmp (ov_neD rfl (hu64_of hr)) (vpv 6) (ve_lst va_nil) (nomark _)) (vss_cons (vs_set (i := 8) sc__law_free_right.nd rfl (Or.inl rfl) (ve_ix iv_list (ve_lc (own := [("_law_shift", 7)]) rfl sc__law_free_right.nd (vi_list rfl (vpv 6)) (blkOk_by (N := N__law_free_right) (sc := defScope s__law_free_right) (by decide +kernel)) (fun _ _ _ _ _ => (vg_name (i := 7) (by decide) sc__law_free_right.nd rfl (.inl rfl))) (fun _ _ _ _ _ => vts_one (PW.pt (vw_or (vt_cmp (ov_notInI rfl) (ve_op ov_mod (ve_callTy cv_int (by rfl) T.z_int (by decide +kernel) (va_cons (ve_op ov_sub (vpv 7) ve_int) va_nil)) (vpv 4)) (vpv 6) rfl) (vw_or1 (vt_cmp ov_eqS (ve_callB (cv_len rfl) (by rfl) T.z_len PySem.boot_len (va_cons (vpv 6) va_nil)) (vpv 4) (nomark _)))))) (fun _ _ _ _ _ => (vpv 7))) ve_int (fun _ _ => rfl)))
      (vss_one (vs_set (i := 5) sc__law_free_right.nd rfl (Or.inl rfl) (ve_tup (va_cons (vpv 8) (va_cons (ve_callB (cv_len rfl) (by rfl) T.z_len PySem.boot_len (va_cons (vpv 6) va_nil)) va_nil)))))) vss_nil)
      (vss_cons (vs_if (vt_cmp (ov_neD rfl (hu64_of hr)) (ve_call (ok_free_shifts T) (hr.mono (by decide)) (by rfl) T.g_free_shifts T.F_free_shifts.kp T.b_free_shifts .nil (fun _ => .nil) hx_of (va_cons (ve_make T.oc_Deal T.M_Deal (ok_Deal___init__ T) (hr.mono (by decide)) (by rfl) T.gC_Deal T.b_Deal___init__ .nil (fun _ => .nil) hx_of (va_cons (ve_ix (iv_tup rfl) (vpv 1) ve_int (fun _ _ => rfl)) (va_cons (ve_ix (iv_tup rfl) (vpv 1) ve_int (fun _ _ => rfl)) (va_cons (ve_ix (iv_tup rfl) (vpv 1) ve_int (fun _ _ => rfl)) va_nil)))) (va_cons (vpv 3) va_nil))) (ve_ifExp (vt_cmp ov_gt (ve_ix (iv_tup rfl) (vpv 1) ve_int (fun _ _ => rfl)) ve_int (nomark _)) (vpv 5) (ve_tup (va_cons ve_int (va_cons ve_int va_nil)))) (nomark _)) (vss_one (vs_ret ve_bl)) vss_nil)
      (vss_cons (vs_set (i := 9) sc__law_free_right.nd rfl (Or.inl rfl) (ve_make T.oc_Deal T.M_Deal (ok_Deal___init__ T) (hr.mono (by decide)) (by rfl) T.gC_Deal T.b_Deal___init__ .nil (fun _ => .nil) hx_of (va_cons (ve_op ov_mul (ve_ix (iv_tup rfl) (vpv 1) ve_int (fun _ _ => rfl)) (vpv 2)) (va_cons (ve_ix (iv_tup rfl) (vpv 1) ve_int (fun _ _ => rfl)) (va_cons (ve_op ov_mul (ve_ix (iv_tup rfl) (vpv 1) ve_int (fun _ _ => rfl)) (vpv 2)) va_nil)))))
      (vss_cons (vs_set (i := 10) sc__law_free_right.nd rfl (Or.inl rfl) (ve_call (ok_free_shifts T) (hr.mono (by decide)) (by rfl) T.g_free_shifts T.F_free_shifts.kp T.b_free_shifts .nil (fun _ => .nil) hx_of (va_cons (vpv 9) (va_cons (ve_callTy (cv_tuple rfl) (by rfl) T.z_tuple (by decide +kernel) (va_cons (ve_lc (own := [("_law_want", 11)]) rfl sc__law_free_right.nd (vi_list rfl (ve_call (ok__law_scaled T) (hr.mono (by decide)) (by rfl) T.g__law_scaled T.F__law_scaled.kp T.b__law_scaled .nil (fun _ => .nil) hx_of (va_cons (vpv 3) (va_cons (vpv 2) (va_cons ve_bl va_nil))))) (blkOk_by (N := N__law_free_right) (sc := defScope s__law_free_right) (by decide +kernel)) (fun _ _ _ _ _ => (vg_name (i := 11) (by decide) sc__law_free_right.nd rfl (.inl rfl))) (fun _ _ _ _ _ => vts_nil) (fun _ _ _ _ _ => (ve_callTy (cv_list rfl) (by rfl) T.z_list (by decide +kernel) (va_cons (vpv 11) va_nil)))) va_nil)) va_nil))))
      (vss_cons (vs_if (vt_cmp ov_eqS (ve_ix (iv_tup rfl) (vpv 1) ve_int (fun _ _ => rfl)) ve_int (nomark _)) (vss_one (vs_ret (ve_cmp (ov_eqD rfl (hu64_of hr)) (vpv 10) (ve_tup (va_cons ve_int (va_cons ve_int va_nil))) (nomark _)))) vss_nil)
      (vss_one (vs_ret (ve_cmp (ov_eqD rfl (hu64_of hr)) (vpv 10) (ve_ifExp (vt_cmp ov_isN (vpv 5) ve_non (nomark _)) ve_non (ve_tup (va_cons (ve_op ov_mul (ve_ix (iv_tup rfl) (vpv 5) ve_int (fun _ _ => rfl)) (vpv 2)) (va_cons (ve_op ov_mul (ve_ix (iv_tup rfl) (vpv 5) ve_int (fun _ _ => rfl)) (vpv 2)) va_nil)))) (nomark _))))))))))))), fun ts n Q hl h => ?_⟩
  match ts, h with
  | [.pen, .tup [.int b, .int h', .int m], .int c], ⟨ok, c0, cB, hn, h⟩ =>
    have b0 := ok.b0
    have h0 := ok.h0
    have b1 := ok.b1
    have h1 := ok.h1
    have m0 := ok.m0
    have m1 := ok.m1
    obtain ⟨g0, g1⟩ := bh20 ok.b0 ok.b1 ok.h0 ok.h1
    walk_at "w"
    intro l n1 ow hst hn1
    have hst : ∀ a ∈ l, a.2.2 ≠ 0 := fun a m => by have := hst a m; rw [if_pos rfl] at this; exact this
    walk_at "w"
    generalize hP : (fun t => decide ((l.map fun a => sent b h' m a a.2.2 t).sum = 0)) = P
    have eP : ∀ t, P t = decide ((l.map fun a => sent b h' m a a.2.2 t).sum = 0) := fun t => by rw [← hP]
    refine for_inv (fun j n' ρ => n' = n1 ∧ j ≤ 20 ∧ ∃ S s7 s8 s9 s10 s11, S = sl P j ∧ ρ = [.v .pen, .v (.tup [.int b, .int h', .int m]), .v (.int c), .v (.lst (l.map w3)), .v (.int (b * h')), .v .non, .ol (S.map Tr.int), s7, s8, s9, s10, s11]) ⟨rfl, by omega, [], _, _, _, _, _, rfl, rfl⟩ ?_ ?_
    · rintro j t n' ρ hj ⟨rfl, hj20, S, s7, s8, s9, s10, s11, hS, rfl⟩ K' hK
      obtain ⟨rfl, hj⟩ := rngT_get hj
      rw [Int.zero_add]
      walk_at "w"
      refine lc_rel (fun t (a : I3) => t = .tup [.int a.1, .int a.2.1, .int a.2.2]) (fun a => .int (sent b h' m a a.2.2 j)) (RL.map (f := w3) (fun _ => rfl) l) (szl (by rw [List.length_map]; have := ow.len; omega)) ?_ ?_
      · rintro t ⟨f, o, wt⟩ ml rfl K1 k1
        have b2 := ow.a2 _ ml
        dsimp only at b2
        walk_at "w"
        exact k1
      · walk_at "w"
        refine ⟨l.map fun a => sent b h' m a a.2.2 j, (by rw [List.map_map]; rfl), ?_⟩
        have e : sl P (j + 1) = if P j = true then sl P j ++ [(j : Int)] else sl P j := rfl
        rw [eP] at e
        have sle := sl_lenle (P := P) j
        rw [← hS] at sle
        refine brS_d (fun z => ?_) (fun z => ?_)
        · walk_at "w"
          refine ⟨szlt (by rw [List.length_map]; omega), ?_⟩
          refine hK _ _ ⟨rfl, by omega, S ++ [(j : Int)], _, _, _, _, _, ?_, by rw [List.map_append]; rfl⟩
          rw [e, if_pos (decide_eq_true z), hS]
        · refine hK _ _ ⟨rfl, by omega, S, _, _, _, _, _, ?_, rfl⟩
          rw [e, if_neg (by rw [decide_eq_false z]; decide), hS]
    · rintro n' ρ ⟨rfl, hj20, S, s7, s8, s9, s10, s11, hS, rfl⟩
      rw [rngT_len] at hS
      have okS : okD (.lst (S.map Tr.int)) := (okK.lst (okK.ints id S)).okD
      have okN : okD (.lst []) := (okK.lst (k := 0) okK.nil).okD
      walk_at "w"
      obtain ⟨sc1, sc2⟩ := silent_case (m := m) (l := l) (S := S) b0 h0 ow.ne (by rw [hS, hP])
      have lenS : S.length ≤ 20 := by have := sl_lenle (P := P) (b * h').toNat; rw [← hS] at this; omega
      refine brS_nx (fun n2 ρ => n2 = n' ∧ ∃ D s7 s8, (2 ≤ h' → D = optT (freeS b h' (m % (b * h')) l)) ∧ ρ = [.v .pen, .v (.tup [.int b, .int h', .int m]), .v (.int c), .v (.lst (l.map w3)), .v (.int (b * h')), .v D, .v (.lst (S.map Tr.int)), s7, s8, s9, s10, s11]) (fun K1 hK => ?_) ?_
      · rw [eqT_lst, show ([] : List Tr) = ([] : List Int).map Tr.int from rfl, eqT_ints]
        refine brS_n (fun z => ?_) (fun z => ?_)
        · obtain ⟨x, r, e1, e2⟩ := sc2 z
          walk_at "w"
          refine lc_map (fun t => match t with | .int x => keepF (b * h') S x | _ => false) (fun t => t) (szl (by rw [List.length_map]; omega)) ?_ ?_
          · intro t mt K1 K2 k1 k2
            obtain ⟨y, my, rfl⟩ := List.mem_map.mp mt
            walk_at "w"
            refine ⟨S, rfl, ?_⟩
            refine brT_n (fun q => ?_) (fun q => ?_)
            · walk_at "w"
              exact k1 (by show keepF (b * h') S y = true; unfold keepF; rw [decide_eq_true q]; rfl)
            · walk_at "w"
              rw [List.length_map]
              by_cases q2 : ((S.length : Nat) : Int) = b * h'
              · rw [if_pos (decide_eq_true q2)]
                exact k1 (by show keepF (b * h') S y = true; unfold keepF; rw [decide_eq_true q2, Bool.or_true])
              · rw [if_neg (by rw [decide_eq_false q2]; decide)]
                exact k2 (by show keepF (b * h') S y = false; unfold keepF; rw [decide_eq_false q2, decide_eq_false (by simpa using q)]; rfl)
          · rw [filt_ints (keepF (b * h') S) _ (fun _ => rfl), e1]
            walk_at "w"
            refine ⟨_, atI_zero _ _, ?_⟩
            walk_at "w"
            exact hK _ _ ⟨rfl, _, _, _, fun h2 => by rw [e2 h2, List.length_map]; rfl, rfl⟩
        · walk_at "w"
          exact hK _ _ ⟨rfl, _, _, _, fun h2 => by rw [sc1 z h2]; rfl, rfl⟩
      · rintro n2 ρ ⟨rfl, D, s7, s8, hD, rfl⟩
        have bB : B 30 b := B.small (by omega) (by omega)
        have hB : B 30 h' := B.small (by omega) (by omega)
        obtain ⟨bc0, bcB, okf⟩ := okd_far (m := m) ok c0 cB
        have ok01 : okD (.tup [.int 0, .int 1]) := (okK.ii 0 1).okD
        walk_at "w"
        refine .inl ⟨nb b h', h', m % (nb b h' * h'), l, rfl, okd_of ok, isWs_l l, ow.ne, bw_of ow, hst, ?_⟩
        rintro _ rfl
        walk_at "w"
        generalize hX : (if h' = 1 then Tr.tup [.int 0, .int 1] else optT (freeS (nb b h') h' (m % (nb b h' * h')) l)) = X
        have nb2 : 2 ≤ h' → nb b h' = b := fun z => if_pos (by omega)
        have X1 : h' = 1 → X = .tup [.int 0, .int 1] := fun z => by rw [← hX, if_pos z]
        have X2 : 2 ≤ h' → D = X := fun z => by rw [← hX, if_neg (by omega), nb2 z, hD z]
        have okX : okD X := by
          rw [← hX]
          split
          · exact ok01
          · cases freeS (nb b h') h' (m % (nb b h' * h')) l with
            | none => exact okK.non.okD
            | some q => exact (okK.ii q.1 q.2).okD
        refine brE_same (X := X) (fun q R r => ?_) (fun q R r => ?_) ?_
        · rw [← X2 (by omega)] at r
          walk_at "w"
          exact r
        · rw [X1 (by omega)] at r
          walk_at "w"
          exact r
        refine ⟨okX, okX, ?_⟩
        rw [eqT_refl okX]
        show brS false _ _ _ _ _
        walk_at "w"
        refine ⟨l, rfl, ow, ?_⟩
        refine lc_rel (fun t (a : I3) => t = .tup [.int a.1, .int a.2.1, .int a.2.2]) (fun a => .lst [.int a.1, .int a.2.1, .int a.2.2]) (RL.map (f := w3) (fun _ => rfl) (l.map (scl c true))) (szl (by rw [List.length_map, List.length_map]; have := ow.len; omega)) ?_ ?_
        · rintro t ⟨f, o, wt⟩ ml rfl K1 k1
          walk_at "w"
          exact k1
        · walk_at "w"
          refine .inl ⟨nb (b * c) h', h', (m * c) % (nb (b * c) h' * h'), l.map (scl c true), rfl, okf, isWs_f, (fun z => ow.ne (List.map_eq_nil_iff.mp z)), bw_far ow cB true, fun a ma => ?_, ?_⟩
          · obtain ⟨x, mx, rfl⟩ := List.mem_map.mp ma
            show (if true = true then x.2.2 * c else x.2.2) ≠ 0
            rw [if_pos rfl]
            intro z
            rcases Int.mul_eq_zero.mp z with z | z
            · exact hst x mx z
            · omega
          · rintro _ rfl
            walk_at "w"
            refine brS_d (fun q => ?_) (fun q => ?_)
            · rw [if_pos q]
              walk_at "w"
              rw [eqT_refl ok01]
              exact h _ hn1
            · have h2 : 2 ≤ h' := by omega
              have nf : nb (b * c) h' = b * c := if_pos (by omega)
              rw [if_neg q, nf, shift_far c0, free_far c0 b0 h0, hD h2]
              have fo := free_ok (s := m % (b * h')) b0 h2 ow.ne
              cases e : freeS b h' (m % (b * h')) l with
              | none =>
                rw [show optT none = .non from rfl, show optT (scO c none) = .non from rfl]
                have okn : okD .non := okK.non.okD
                walk_at "w"
                exact h _ hn1
              | some r =>
                obtain ⟨f, k⟩ := r
                rw [e] at fo
                obtain ⟨f0, f1, k0, k1, _⟩ := fo
                rw [show optT (some (f, k)) = .tup [.int f, .int k] from rfl, show optT (scO c (some (f, k))) = .tup [.int (f * c), .int (k * c)] from rfl]
                walk_at "w"
                have okr : okD (.tup [.int (f * c), .int (k * c)]) := (okK.ii _ _).okD
                refine ⟨okr, okr, ?_⟩
                rw [eqT_refl okr]
                exact h _ hn1
end
end K27
namespace K27
open PySem L2 DS VL MT
/-- the law's cost -/
def CL (b h m st : Int) (l : List I3) (sh : Int) : Int := (l.map fun a => a.2.2 * sent b h m a st sh).sum
theorem CL_one {b m st sh : Int} : ∀ l : List I3, CL b 1 m st l sh = 0
  | [] => rfl
  | a :: l => by
    have := CL_one (b := b) (m := m) (st := st) (sh := sh) l
    unfold CL at this ⊢
    rw [List.map_cons, List.sum_cons, this, sent_one]
    omega
theorem cst_CL {b h m st sh : Int} (b0 : 0 < b) (h0 : 0 < h) (l : List I3) : cst (nb b h) h (Int.gcd st (nb b h) : Nat) (nb b h * h / (Int.gcd st (nb b h) : Nat)) (m % (nb b h * h)) sh l = CL b h m st l sh := by
  by_cases h2 : 1 < h
  · rw [show nb b h = b from if_pos h2]
    exact cst_sum b0 (by omega) st sh l
  · have : h = 1 := by omega
    subst this
    rw [show nb b 1 = 1 from rfl, CL_one]
    exact cst_one ..
theorem CL_turn {b h m st d k : Int} (b0 : 0 < b) (h0 : 0 < h) (l : List I3) : CL b h m st l (d - b * h * k) = CL b h m st l d := by
  by_cases h2 : 1 < h
  · obtain ⟨q, hq, q0, g0, eR, eW, _⟩ := gcd_parts (st := st) (b := b) (h := h) b0 h0
    have := cst_turn (b := b) (h := h) (R := b * h / (Int.gcd st b : Nat)) (s := m % (b * h)) g0 d (-k) l
    rw [cst_sum b0 (by omega), show (Int.gcd st b : Nat) * (b * h / (Int.gcd st b : Nat)) = b * h by rw [eR, eW], cst_sum b0 (by omega)] at this
    rw [show d - b * h * k = d + b * h * -k by rw [Int.mul_neg]; omega]
    exact this
  · have : h = 1 := by omega
    subst this
    rw [CL_one, CL_one]
theorem sent_le {b h m : Int} (W0 : 0 ≤ b * h) (a : I3) (st sh : Int) : sent b h m a st sh ≤ b * h := by
  unfold sent
  have : ∀ N : Nat, sm (fun k => dH b h (a.1 + m) (a.2.1 + sh) st k) N ≤ N := fun N => by
    induction N with
    | zero => exact Int.le_refl 0
    | succ n ih =>
      have : dH b h (a.1 + m) (a.2.1 + sh) st (n : Nat) ≤ 1 := by unfold dH; split <;> omega
      show sm _ n + dH b h (a.1 + m) (a.2.1 + sh) st (n : Nat) ≤ _
      omega
  have := this (b * h).toNat
  omega
theorem CL_le {b h m st sh : Int} (W0 : 0 ≤ b * h) (W1 : b * h ≤ 20) : ∀ {l : List I3}, (∀ a ∈ l, 0 ≤ a.2.2 ∧ a.2.2 ≤ 12) → 0 ≤ CL b h m st l sh ∧ CL b h m st l sh ≤ 240 * l.length
  | [], _ => ⟨Int.le_refl 0, Int.le_refl 0⟩
  | a :: l, hw => by
    obtain ⟨i0, i1⟩ := CL_le (m := m) (st := st) (sh := sh) W0 W1 (l := l) fun x mx => hw x (List.mem_cons_of_mem _ mx)
    obtain ⟨w0, w1⟩ := hw a (List.mem_cons_self ..)
    have s0 := sent_nn (b := b) (h := h) (m := m) a st sh
    have s1 := sent_le (m := m) W0 a st sh
    have p0 := Int.mul_nonneg w0 s0
    have p1 : a.2.2 * sent b h m a st sh ≤ 12 * 20 := Int.mul_le_mul w1 (by omega) s0 (by omega)
    unfold CL at i0 i1 ⊢
    rw [List.map_cons, List.sum_cons, List.length_cons]
    omega
theorem best_CL {b h m st : Int} (b0 : 0 < b) (h0 : 0 < h) {l : List I3} (hw : ∀ x ∈ l, 0 ≤ x.2.2) : ∃ t, bestS (nb b h) h (m % (nb b h * h)) st l = some (CL b h m st l t, t) ∧ 0 ≤ t ∧ t < b * h ∧ (h = 1 → t = 0) ∧ ∀ u, 0 ≤ u → u < b * h → lexle (CL b h m st l) t u := by
  by_cases h2 : 1 < h
  · obtain ⟨t, e, t0, t1, t2⟩ := best_ex (s := m % (b * h)) (st := st) b0 h0 hw
    rw [show nb b h = b from if_pos h2]
    refine ⟨t, ?_, t0, t1, fun z => by omega, fun u u0 u1 => ?_⟩
    · rw [e, cst_sum b0 (by omega)]
      rfl
    · have := t2 u u0 u1
      unfold lexle at this ⊢
      dsimp only at this
      rw [cst_sum b0 (by omega), cst_sum b0 (by omega)] at this
      exact this
  · have : h = 1 := by omega
    subst this
    rw [show nb b 1 = 1 from rfl]
    refine ⟨0, ?_, by omega, by omega, fun _ => rfl, fun u u0 _ => ?_⟩
    · rw [best_one hw, CL_one]
    · unfold lexle
      rw [CL_one, CL_one]
      omega
/-- the least one of the costs -/
theorem least_CL {C : Int → Int} {W : Nat} {t y : Int} (t0 : 0 ≤ t) (t1 : t < W) (hl : ∀ u : Int, 0 ≤ u → u < W → lexle C t u) (my : y ∈ (List.range W).map fun j => C (j : Nat)) (hy : ∀ z ∈ (List.range W).map fun j => C (j : Nat), y ≤ z) : y = C t := by
  obtain ⟨j, mj, rfl⟩ := List.mem_map.mp my
  have h1 := hy (C t) (List.mem_map.mpr ⟨t.toNat, List.mem_range.mpr (by omega), by rw [show ((t.toNat : Nat) : Int) = t by omega]⟩)
  have := hl j (by omega) (by have := List.mem_range.mp mj; omega)
  unfold lexle at this
  omega
theorem index_CL {C : Int → Int} {W : Nat} {t : Int} (t0 : 0 ≤ t) (t1 : t < W) (hl : ∀ u : Int, 0 ≤ u → u < W → lexle C t u) : ((List.range W).map fun j => C (j : Nat))[t.toNat]? = some (C t) ∧ ∀ m, m < t.toNat → ((List.range W).map fun j => C (j : Nat))[m]? ≠ some (C t) := by
  refine ⟨?_, fun m hm z => ?_⟩
  · rw [List.getElem?_map, List.getElem?_range (by omega)]
    show some (C ((t.toNat : Nat) : Int)) = _
    rw [show ((t.toNat : Nat) : Int) = t by omega]
  · rw [List.getElem?_map, List.getElem?_range (by omega)] at z
    have z : C (m : Nat) = C t := Option.some.inj z
    have := hl m (by omega) (by omega)
    unfold lexle at this
    omega
end K27
namespace K27
open PySem L2 DS VL MT NdefX
set_option pp.maxSteps 2000
local macro_rules | `(tactic| walk_at "v") => `(tactic| try dsimp only [vNext, vSeq, vBreak, vCont, vDrop, vRet, vRetN, vIfS, vSet, vFrz, frz, frzS, vSetOL, gNm, VL.gNil, VL.gCons, gTupN, vAsg, parQ, vPar, par3Q, vPar3, vFor, iLst, lstQ, VL.iTup, tupQ, VL.iRng1, rng1Q, VL.iRng2, rng2Q, vVar, vv, gt, vC, vOp, vUn, vI, vI0, vU, vEqS, isNonT, isNQ, vIsN, vbl, vIf, vAndV, vOrV, vNotV, vChain, vTest, vNot, vYes, vNo, vAnd, vOr, vNil, vCons, vTup, vLst, lkQ, fldC, vFldC, fldO, vFldO, vCall, methQ, vMeth, vMake, vBinII, vBinIZ, vNegOwn, vEqII, ends, endsI, oiQ, startT, startI, vCB, cInt, cAbs, c2I, cDivmod, cLen, cList, cTuple, cSum, cAll, cAny, cSorted, ixL, ixT, ixQ, oNone, oiQ2, oSome, slQ, vSlL, vCat, truT, truQ, vTru, augQ, augS, vAug, isBt, isQ, cIsB, isCQ, cIsC, isSeq, vIsSeq, vEqD, inSQ, vIn, appQ, vApp, setK, setQ, vSetI, popK, popQ, vPop, olQ, vLenO, vIxO, vTruO, fsQ, vFldS, putT, self2P, self2Q, vSelf2, vLc, wipeT, vNever, revQ, vRev, vParO, vRaise1, toldQ, vToldA, hide, hideS, vParO2, gSeqN, seqV, iSeqV, vLtT, ixoQ, vIndex, defQ, vCallL2, ixS, vToldM, inIQ, vInI, ite_tt, ite_ft, List.set, List.map, List.length, List.append, List.replicate, List.drop, List.nil_append, List.cons_append, List.append_nil, Nat.sub_self, Nat.reduceSub, List.replicate_zero, List.replicate_succ, Nat.reduceAdd, Bool.not_true, Bool.not_false, brE_true, brE_false, brT_true, brT_false, brS_true, brS_false, Bt.nm, vdraw, vpick, vten, vbegin, sp_is_integer, sp_is_whole, sp_need_integer, sp_need_positive, sp_need_step, sp_need_items, sp_is_step, dealT, sp_common_factor, sp_Deal___init__, sp_need_deal, sp_met, sp_need_wants, sp_cost_at, sp_tried_shifts, sp_shift_cost, sp_best_shift, sp_free_shifts, sp__law_great, sp__law_sent, sp__law_cost, sp__law_step, sp__law_wants, sp__law_scaled, sp__law_refused_right, sp__law_free_right, sp__law_best_right, fl_Deal_houses, pt_Deal_houses, fl_Deal_block, pt_Deal_block, fq_Deal_1_0, fl_Deal_shift, pt_Deal_shift, fq_Deal_2_0, fq_Deal_2_1])
local macro_rules | `(tactic| walk_at "b") => `(tactic| first
  | with_reducible assumption
  | exact B.lit (k := 70) (by decide)
  | exact B.add (by walk_at "b") (by walk_at "b")
  | exact B.sub (by walk_at "b") (by walk_at "b")
  | exact B.neg (by walk_at "b")
  | exact B.mul (by walk_at "b") (by walk_at "b")
  | exact B.div (by walk_at "b")
  | exact B.mod (by walk_at "b") (by omega)
  | exact B.ite (by walk_at "b") (by walk_at "b")
  | exact B.ten _)
local macro_rules | `(tactic| walk_at "bb") => `(tactic| (with_reducible show B _ _; exact B.mono (by walk_at "b") (by first | decide | omega)))
local macro_rules | `(tactic| walk_at "sc") => `(tactic| first
  | with_reducible assumption
  | (with_reducible show (_ : Int) < 2 ^ 200; first | assumption | exact lt200 (by omega))
  | rfl
  | (show CMulA _ _; first | exact CMulA.s1 (by omega) (by omega) | exact CMulA.s2 (by omega) (by omega) | exact cmula (by walk_at "b") (by walk_at "b") (by first | decide | omega))
  | (show CDivW _ _; exact cdivw (by omega) (by walk_at "b") (by first | decide | omega))
  | (show CPow _ _; exact ⟨by decide, by decide, by decide⟩)
  | walk_at "bb"
  | omega
  | exact Nat.le_of_ble_eq_true rfl)
local macro_rules | `(tactic| walk_at "w") => `(tactic| (walk_at "v"; repeat ((first | refine And.intro (by walk_at "sc") ?_ | (with_reducible show Exists fun t => And (atI _ _ = some t) _; refine Exists.intro _ (And.intro rfl ?_))); walk_at "v")))

section
variable {P : Program} {w : World} {K : PySem.W.Frag} {mg : Str → Option Value} {base : Heap}
theorem ok__law_best_right (T : Tx w K mg) : FnOk PR w K mg base (L2.CX PR w) 7 T.f__law_best_right T.fd__law_best_right ["_law_pen_here", "_law_deal", "_law_times"] (lSp (gK T) 3 (sp__law_best_right T)) := by
  refine ok_v (fun _ l b => T.F__law_best_right.okX sc__law_best_right l b) rfl (fun cdv A outer s H E F0 xq hr => ?_)
  refine ⟨_, (vss_cons (vs_asg (vs := [3, 4, 5]) (ve_tup (va_cons (ve_call (ok__law_wants T) (hr.mono (by decide)) (by rfl) T.g__law_wants T.F__law_wants.kp T.b__law_wants .nil (fun _ => .nil) hx_of (va_cons (vpv 0) (va_cons ve_str va_nil))) (va_cons (ve_call (ok__law_step T) (hr.mono (by decide)) (by rfl) T.g__law_step T.F__law_step.kp T.b__law_step .nil (fun _ => .nil) hx_of (va_cons (vpv 0) va_nil)) (va_cons (ve_op ov_mul (ve_ix (iv_tup rfl) (vpv 1) ve_int (fun _ _ => rfl)) (ve_ix (iv_tup rfl) (vpv 1) ve_int (fun _ _ => rfl))) va_nil)))) (vg_tup (m := 3) rfl rfl (vgs_cons (vg_name (i := 3) (by decide) sc__law_best_right.nd rfl (Or.inr rfl)) (vgs_cons (vg_name (i := 4) (by decide) sc__law_best_right.nd rfl (Or.inr rfl)) (vgs_cons (vg_name (i := 5) (by decide) sc__law_best_right.nd rfl (Or.inl rfl)) vgs_nil)))))
      (vss_cons (vs_par2 (i := 7) (j := 8) (ps_par (i := 7) (j := 8) rfl sc__law_best_right.nd rfl rfl (by decide) rfl rfl (va_cons (ve_make T.oc_Deal T.M_Deal (ok_Deal___init__ T) (hr.mono (by decide)) (by rfl) T.gC_Deal T.b_Deal___init__ .nil (fun _ => .nil) hx_of (va_cons (ve_ix (iv_tup rfl) (vpv 1) ve_int (fun _ _ => rfl)) (va_cons (ve_ix (iv_tup rfl) (vpv 1) ve_int (fun _ _ => rfl)) (va_cons (ve_ix (iv_tup rfl) (vpv 1) ve_int (fun _ _ => rfl)) va_nil)))) (va_cons (ve_lc (own := [("_law_shift", 6)]) rfl sc__law_best_right.nd (vi_range1 (by rfl) T.z_range (va_cons (vpv 5) va_nil)) (blkOk_by (N := N__law_best_right) (sc := defScope s__law_best_right) (by decide +kernel)) (fun _ _ _ _ _ => (vg_name (i := 6) (by decide) sc__law_best_right.nd rfl (.inl rfl))) (fun _ _ _ _ _ => vts_nil) (fun _ _ _ _ _ => (ve_call (ok__law_cost T) (hr.mono (by decide)) (by rfl) T.g__law_cost T.F__law_cost.kp T.b__law_cost .nil (fun _ => .nil) passes_no (va_cons (vpv 1) (va_cons (vpv 4) (va_cons (vpv 3) (va_cons (vpv 6) va_nil))))))) va_nil)) rfl))
      (vss_cons (vs_set (i := 6) sc__law_best_right.nd rfl (Or.inl rfl) (ve_call (ok__law_draw T) (hr.mono (by decide)) (by rfl) T.g__law_draw T.F__law_draw.kp T.b__law_draw .nil (fun _ => .nil) hx_of (va_cons (vpv 0) (va_cons (vpv 5) va_nil))))
      (vss_cons (vs_if (vt_cmp ov_neS (ve_call (ok_shift_cost T) (hr.mono (by decide)) (by rfl) T.g_shift_cost T.F_shift_cost.kp T.b_shift_cost .nil (fun _ => .nil) hx_of (va_cons (vpv 7) (va_cons (vpv 4) (va_cons (vpv 3) (va_cons (ve_op ov_sub (vpv 6) (ve_op ov_mul (vpv 5) (ve_call (ok__law_draw T) (hr.mono (by decide)) (by rfl) T.g__law_draw T.F__law_draw.kp T.b__law_draw .nil (fun _ => .nil) hx_of (va_cons (vpv 0) (va_cons ve_int va_nil))))) va_nil))))) (ve_ix iv_list (vpv 8) (vpv 6) (fun _ _ => rfl)) (nomark _)) (vss_one (vs_ret ve_bl)) vss_nil)
      (vss_cons (vs_set (i := 9) sc__law_best_right.nd rfl (Or.inl rfl) (ve_callB (cv_minL rfl) (by rfl) T.z_min (by decide +kernel) (va_cons (vpv 8) va_nil)))
      (vss_cons (vs_if (vt_cmp (ov_neD rfl (hu64_of hr)) (ve_call (ok_best_shift T) (hr.mono (by decide)) (by rfl) T.g_best_shift T.F_best_shift.kp T.b_best_shift .nil (fun _ => .nil) hx_of (va_cons (vpv 7) (va_cons (vpv 4) (va_cons (vpv 3) va_nil)))) (ve_tup (va_cons (vpv 9) (va_cons (ve_ifExp (vt_cmp ov_gt (ve_ix (iv_tup rfl) (vpv 1) ve_int (fun _ _ => rfl)) ve_int (nomark _)) (ve_index (pe_bm PySem.F.plainAttrs_list PySem.F.slot_list_index PySem.F.type_list_index mt_index (vpv 8) (pa_cons (vpv 9) pa_nil))) ve_int) va_nil))) (nomark _)) (vss_one (vs_ret ve_bl)) vss_nil)
      (vss_cons (vs_par2 (i := 10) (j := 11) (ps_par (i := 10) (j := 11) rfl sc__law_best_right.nd rfl rfl (by decide) rfl rfl (va_cons (ve_make T.oc_Deal T.M_Deal (ok_Deal___init__ T) (hr.mono (by decide)) (by rfl) T.gC_Deal T.b_Deal___init__ .nil (fun _ => .nil) hx_of (va_cons (ve_op ov_mul (ve_ix (iv_tup rfl) (vpv 1) ve_int (fun _ _ => rfl)) (vpv 2)) (va_cons (ve_ix (iv_tup rfl) (vpv 1) ve_int (fun _ _ => rfl)) (va_cons (ve_op ov_mul (ve_ix (iv_tup rfl) (vpv 1) ve_int (fun _ _ => rfl)) (vpv 2)) va_nil)))) (va_cons (ve_call (ok__law_scaled T) (hr.mono (by decide)) (by rfl) T.g__law_scaled T.F__law_scaled.kp T.b__law_scaled .nil (fun _ => .nil) hx_of (va_cons (vpv 3) (va_cons (vpv 2) (va_cons ve_bl va_nil)))) va_nil)) rfl))
      (vss_cons (vs_if (vt_cmp ov_eqS (ve_ix (iv_tup rfl) (vpv 1) ve_int (fun _ _ => rfl)) ve_int (nomark _)) (vss_one (vs_ret (ve_cmp (ov_eqD rfl (hu64_of hr)) (ve_call (ok_best_shift T) (hr.mono (by decide)) (by rfl) T.g_best_shift T.F_best_shift.kp T.b_best_shift .nil (fun _ => .nil) hx_of (va_cons (vpv 10) (va_cons (ve_op ov_mul (vpv 4) (vpv 2)) (va_cons (vpv 11) va_nil)))) (ve_tup (va_cons ve_int (va_cons ve_int va_nil))) (nomark _)))) vss_nil)
      (vss_cons (vs_if (vt_cmp ov_neS (ve_call (ok_shift_cost T) (hr.mono (by decide)) (by rfl) T.g_shift_cost T.F_shift_cost.kp T.b_shift_cost .nil (fun _ => .nil) hx_of (va_cons (vpv 10) (va_cons (ve_op ov_mul (vpv 4) (vpv 2)) (va_cons (vpv 11) (va_cons (ve_op ov_add (ve_op ov_mul (vpv 6) (vpv 2)) (ve_call (ok__law_draw T) (hr.mono (by decide)) (by rfl) T.g__law_draw T.F__law_draw.kp T.b__law_draw .nil (fun _ => .nil) hx_of (va_cons (vpv 0) (va_cons (vpv 2) va_nil)))) va_nil))))) (ve_op ov_mul (ve_ix iv_list (vpv 8) (vpv 6) (fun _ _ => rfl)) (vpv 2)) (nomark _)) (vss_one (vs_ret ve_bl)) vss_nil)
      (vss_one (vs_ret (ve_cmp (ov_eqD rfl (hu64_of hr)) (ve_call (ok_best_shift T) (hr.mono (by decide)) (by rfl) T.g_best_shift T.F_best_shift.kp T.b_best_shift .nil (fun _ => .nil) hx_of (va_cons (vpv 10) (va_cons (ve_op ov_mul (vpv 4) (vpv 2)) (va_cons (vpv 11) va_nil)))) (ve_tup (va_cons (ve_op ov_mul (vpv 9) (vpv 2)) (va_cons (ve_op ov_mul (ve_index (pe_bm PySem.F.plainAttrs_list PySem.F.slot_list_index PySem.F.type_list_index mt_index (vpv 8) (pa_cons (vpv 9) pa_nil))) (vpv 2)) va_nil))) (nomark _))))))))))))), fun ts n Q hl h => ?_⟩
  match ts, h with
  | [.pen, .tup [.int b, .int h', .int m], .int c], ⟨ok, c0, cB, hn, h⟩ =>
    have b0 := ok.b0
    have h0 := ok.h0
    have b1 := ok.b1
    have h1 := ok.h1
    have m0 := ok.m0
    have m1 := ok.m1
    obtain ⟨g0, g1⟩ := bh20 ok.b0 ok.b1 ok.h0 ok.h1
    have bB : B 30 b := B.small (by omega) (by omega)
    have hB : B 30 h' := B.small (by omega) (by omega)
    obtain ⟨bc0, bcB, okf⟩ := okd_far (m := m) ok c0 cB
    walk_at "w"
    intro l n1 ow hst hn1
    have hst : ∀ a ∈ l, 0 ≤ a.2.2 := fun a m => by have := hst a m; rw [if_neg (by decide +kernel)] at this; exact this
    walk_at "w"
    intro st s0 s1 s2
    walk_at "w"
    have hW : (((b * h').toNat : Nat) : Int) = b * h' := by omega
    have w12 : ∀ a ∈ l, 0 ≤ a.2.2 ∧ a.2.2 ≤ 12 := fun a ma => ⟨hst a ma, (ow.a2 a ma).2⟩
    have cle : ∀ sh, 0 ≤ CL b h' m st l sh ∧ CL b h' m st l sh ≤ 720 := fun sh => by
      have := CL_le (m := m) (st := st) (sh := sh) (by omega) g1 w12
      have := ow.len
      omega
    refine lc_rel (fun t (j : Nat) => t = .int (0 + (j : Int))) (fun j => .int (CL b h' m st l (j : Nat))) (RL.map (f := fun i : Nat => Tr.int (0 + (i : Int))) (fun _ => rfl) (List.range (b * h').toNat)) (szl (by rw [rngT_len]; omega)) ?_ ?_
    · rintro t j ml rfl K1 k1
      rw [Int.zero_add]
      walk_at "w"
      exact ⟨l, rfl, ow, k1⟩
    · rw [show ((List.range (b * h').toNat).map fun (j : Nat) => Tr.int (CL b h' m st l (j : Nat))) = ((List.range (b * h').toNat).map fun (j : Nat) => CL b h' m st l (j : Nat)).map Tr.int by rw [List.map_map]; rfl]
      walk_at "w"
      intro d d0 d1
      walk_at "w"
      intro k k0 k1
      walk_at "w"
      have hix : atI (((List.range (b * h').toNat).map fun (j : Nat) => CL b h' m st l (j : Nat)).map Tr.int) d = some (.int (CL b h' m st l d)) := by
        rw [atI_nat (by rw [List.length_map, List.length_map, List.length_range]; omega) d0]
        simp
        rw [show max d 0 = d by omega]
      refine .inl ⟨nb b h', h', m % (nb b h' * h'), l, rfl, okd_of ok, isWs_l l, ow.ne, bw_of ow, hst, s0, ?_⟩
      rw [cst_CL b0 h0, CL_turn b0 h0]
      walk_at "w"
      refine ⟨_, hix, ?_⟩
      obtain ⟨t, eb, t0, t1, th, tl⟩ := best_CL (m := m) (st := st) b0 h0 hst
      have tl' : ∀ u, 0 ≤ u → u < (((b * h').toNat : Nat) : Int) → lexle (CL b h' m st l) t u := fun u u0 u1 => tl u u0 (by omega)
      obtain ⟨ix1, ix2⟩ := index_CL (C := CL b h' m st l) (W := (b * h').toNat) t0 (by omega) tl'
      have lst := fun y my hy => least_CL (C := CL b h' m st l) (W := (b * h').toNat) (y := y) t0 (by omega) tl' my hy
      generalize hcs : ((List.range (b * h').toNat).map fun (j : Nat) => CL b h' m st l (j : Nat)) = cs at *
      walk_at "w"
      have et : (((t.toNat : Nat)) : Int) = t := by omega
      have len : 0 < cs.length := by rw [← hcs, List.length_map, List.length_range]; omega
      refine brS_n (fun z => absurd rfl z) (fun _ => ?_)
      walk_at "w"
      refine ⟨cs, rfl, len, fun y my hy => ?_⟩
      obtain rfl := lst y my hy
      have okR : okD (.tup [.int (CL b h' m st l t), .int t]) := (okK.ii _ _).okD
      walk_at "w"
      refine .inl ⟨nb b h', h', m % (nb b h' * h'), l, rfl, okd_of ok, isWs_l l, ow.ne, bw_of ow, hst, s0, ?_⟩
      rintro _ rfl
      rw [eb, show optT (some (CL b h' m st l t, t)) = .tup [.int (CL b h' m st l t), .int t] from rfl]
      walk_at "w"
      refine brE_same (X := .int t) (fun q R r => ?_) (fun q R r => ?_) ?_
      · walk_at "w"
        refine ⟨cs, t.toNat, rfl, ix1, ix2, ?_⟩
        rw [et]
        exact r
      · rw [th (by omega)] at r
        walk_at "w"
        exact r
      walk_at "w"
      rw [eqT_refl okR]
      show brS false _ _ _ _ _
      walk_at "w"
      refine ⟨l, rfl, ow, ?_⟩
      have nef : l.map (scl c false) ≠ [] := fun z => ow.ne (List.map_eq_nil_iff.mp z)
      have hstf : ∀ a ∈ l.map (scl c false), 0 ≤ a.2.2 := fun a ma => by
        obtain ⟨x, mx, rfl⟩ := List.mem_map.mp ma
        exact hst x mx
      have sc0 : st * c ≠ 0 := fun z => by rcases Int.mul_eq_zero.mp z with z | z <;> omega
      walk_at "w"
      refine brS_d (fun q => ?_) (fun q => ?_)
      · have ok0 : okD (.tup [.int 0, .int 0]) := (okK.ii 0 0).okD
        walk_at "w"
        refine .inl ⟨nb (b * c) h', h', _, l.map (scl c false), rfl, okf, isWs_l _, nef, bw_far ow cB false, hstf, sc0, ?_⟩
        rintro _ rfl
        rw [show bestS (nb (b * c) h') h' (m * c % (nb (b * c) h' * h')) (st * c) (l.map (scl c false)) = some (0, 0) by rw [q]; exact best_one hstf, show optT (some (0, 0)) = .tup [.int 0, .int 0] from rfl]
        walk_at "w"
        rw [eqT_refl ok0]
        exact h _ (by omega)
      · have c200 : c < 2 ^ 200 := B.lt200 (cB.mono (by decide))
        have nf : nb (b * c) h' = b * c := if_pos (by omega)
        have nn : nb b h' = b := if_pos (by omega)
        have cd := cle d
        have ct := cle t
        walk_at "w"
        intro r r0 r1
        walk_at "w"
        refine .inl ⟨nb (b * c) h', h', _, l.map (scl c false), rfl, okf, isWs_l _, nef, bw_far ow cB false, hstf, sc0, ?_⟩
        rw [nf, shift_far c0, cost_far c0 b0 h0, cst_sum b0 (by omega)]
        rw [show (d * c + r) / c = d by rw [Int.add_comm, Int.add_mul_ediv_right _ _ (by omega), Int.ediv_eq_zero_of_lt r0 r1]; omega]
        walk_at "w"
        refine ⟨_, hix, ?_⟩
        walk_at "w"
        refine brS_n (fun z => absurd (Int.mul_comm _ _) z) (fun _ => ?_)
        walk_at "w"
        rw [nn] at eb
        refine .inl ⟨b * c, h', _, l.map (scl c false), rfl, (by rw [nf, shift_far c0] at okf; exact okf), isWs_l _, nef, bw_far ow cB false, hstf, sc0, ?_⟩
        rintro _ rfl
        rw [best_far c0 b0 h0 hst eb, show optT (some (CL b h' m st l t * c, t * c)) = .tup [.int (CL b h' m st l t * c), .int (t * c)] from rfl]
        have okR : okD (.tup [.int (CL b h' m st l t * c), .int (t * c)]) := (okK.ii _ _).okD
        walk_at "w"
        refine ⟨cs, t.toNat, rfl, ix1, ix2, ?_⟩
        rw [et]
        walk_at "w"
        rw [eqT_refl okR]
        exact h _ (by omega)
end
end K27
namespace K27
open PySem L2 DS VL MT NdefX
set_option pp.maxSteps 2000
local macro_rules | `(tactic| walk_at "v") => `(tactic| try dsimp only [vNext, vSeq, vBreak, vCont, vDrop, vRet, vRetN, vIfS, vSet, vFrz, frz, frzS, vSetOL, gNm, VL.gNil, VL.gCons, gTupN, vAsg, parQ, vPar, par3Q, vPar3, vFor, iLst, lstQ, VL.iTup, tupQ, VL.iRng1, rng1Q, VL.iRng2, rng2Q, vVar, vv, gt, vC, vOp, vUn, vI, vI0, vU, vEqS, isNonT, isNQ, vIsN, vbl, vIf, vAndV, vOrV, vNotV, vChain, vTest, vNot, vYes, vNo, vAnd, vOr, vNil, vCons, vTup, vLst, lkQ, fldC, vFldC, fldO, vFldO, vCall, methQ, vMeth, vMake, vBinII, vBinIZ, vNegOwn, vEqII, ends, endsI, oiQ, startT, startI, vCB, cInt, cAbs, c2I, cDivmod, cLen, cList, cTuple, cSum, cAll, cAny, cSorted, ixL, ixT, ixQ, oNone, oiQ2, oSome, slQ, vSlL, vCat, truT, truQ, vTru, augQ, augS, vAug, isBt, isQ, cIsB, isCQ, cIsC, isSeq, vIsSeq, vEqD, inSQ, vIn, appQ, vApp, setK, setQ, vSetI, popK, popQ, vPop, olQ, vLenO, vIxO, vTruO, fsQ, vFldS, putT, self2P, self2Q, vSelf2, vLc, wipeT, vNever, revQ, vRev, vParO, vRaise1, toldQ, vToldA, hide, hideS, vParO2, gSeqN, seqV, iSeqV, vLtT, ixoQ, vIndex, defQ, vCallL2, ixS, vToldM, inIQ, vInI, ite_tt, ite_ft, List.set, List.map, List.length, List.append, List.replicate, List.drop, List.nil_append, List.cons_append, List.append_nil, Nat.sub_self, Nat.reduceSub, List.replicate_zero, List.replicate_succ, Nat.reduceAdd, Bool.not_true, Bool.not_false, brE_true, brE_false, brT_true, brT_false, brS_true, brS_false, Bt.nm, vdraw, vpick, vten, vbegin, sp_is_integer, sp_is_whole, sp_need_integer, sp_need_positive, sp_need_step, sp_need_items, sp_is_step, dealT, sp_common_factor, sp_Deal___init__, sp_need_deal, sp_met, sp_need_wants, sp_cost_at, sp_tried_shifts, sp_shift_cost, sp_best_shift, sp_free_shifts, sp__law_great, sp__law_sent, sp__law_cost, sp__law_step, sp__law_wants, sp__law_scaled, sp__law_refused_right, sp__law_free_right, sp__law_best_right, fl_Deal_houses, pt_Deal_houses, fl_Deal_block, pt_Deal_block, fq_Deal_1_0, fl_Deal_shift, pt_Deal_shift, fq_Deal_2_0, fq_Deal_2_1])
local macro_rules | `(tactic| walk_at "b") => `(tactic| first
  | with_reducible assumption
  | exact B.lit (k := 70) (by decide)
  | exact B.add (by walk_at "b") (by walk_at "b")
  | exact B.sub (by walk_at "b") (by walk_at "b")
  | exact B.neg (by walk_at "b")
  | exact B.mul (by walk_at "b") (by walk_at "b")
  | exact B.div (by walk_at "b")
  | exact B.mod (by walk_at "b") (by omega)
  | exact B.ite (by walk_at "b") (by walk_at "b")
  | exact B.ten _)
local macro_rules | `(tactic| walk_at "bb") => `(tactic| (with_reducible show B _ _; exact B.mono (by walk_at "b") (by first | decide | omega)))
local macro_rules | `(tactic| walk_at "sc") => `(tactic| first
  | with_reducible assumption
  | (with_reducible show (_ : Int) < 2 ^ 200; first | assumption | exact lt200 (by omega))
  | rfl
  | (show CMulA _ _; first | exact CMulA.s1 (by omega) (by omega) | exact CMulA.s2 (by omega) (by omega) | exact cmula (by walk_at "b") (by walk_at "b") (by first | decide | omega))
  | (show CDivW _ _; exact cdivw (by omega) (by walk_at "b") (by first | decide | omega))
  | (show CPow _ _; exact ⟨by decide, by decide, by decide⟩)
  | walk_at "bb"
  | omega
  | exact Nat.le_of_ble_eq_true rfl)
local macro_rules | `(tactic| walk_at "w") => `(tactic| (walk_at "v"; repeat ((first | refine And.intro (by walk_at "sc") ?_ | (with_reducible show Exists fun t => And (atI _ _ = some t) _; refine Exists.intro _ (And.intro rfl ?_))); walk_at "v")))

section
variable {P : Program} {w : World} {K : PySem.W.Frag} {mg : Str → Option Value} {base : Heap}
theorem ok_law (T : Tx w K mg) (TB : LamX.TabB base mg T.c__law_refused_right T.P__law_refused_right) : FnOk PR w K mg base (L2.CX PR w) 10 T.f_law T.fd_law ["_law_script"] (lSp (gK T) 1 (vlaw)) := by
  refine ok_v (fun _ l b => T.F_law.okX sc_law l b) rfl (fun cdv A outer s H E F0 xq hr => ?_)
  refine ⟨_, (vss_cons (vs_set (i := 1) sc_law.nd rfl (Or.inl rfl) (ve_call (ok__law_pen T) (hr.mono (by decide)) (by rfl) T.g__law_pen T.F__law_pen.kp T.b__law_pen .nil (fun _ => .nil) hx_of (va_cons (vpv 0) va_nil)))
      (vss_cons (vs_for (vs := [2]) own_of rfl (vi_range1 (by rfl) T.z_range (va_cons (ve_op ov_add ve_int (ve_callB (cv_min2 rfl) (by rfl) T.z_min (by decide +kernel) (va_cons ve_int (va_cons (ve_callB (cv_len rfl) (by rfl) T.z_len PySem.boot_len (va_cons (vpv 0) va_nil)) va_nil)))) va_nil)) (vg_name (i := 2) (by decide) sc_law.nd rfl (Or.inl rfl))
      (vss_cons (vs_set (i := 3) sc_law.nd rfl (Or.inl rfl) (ve_tup (va_cons (ve_op ov_add ve_int (ve_call (ok__law_draw T) (hr.mono (by decide)) (by rfl) T.g__law_draw T.F__law_draw.kp T.b__law_draw .nil (fun _ => .nil) hx_of (va_cons (vpv 1) (va_cons ve_int va_nil)))) (va_cons (ve_op ov_add ve_int (ve_call (ok__law_draw T) (hr.mono (by decide)) (by rfl) T.g__law_draw T.F__law_draw.kp T.b__law_draw .nil (fun _ => .nil) hx_of (va_cons (vpv 1) (va_cons ve_int va_nil)))) (va_cons (ve_op ov_sub (ve_call (ok__law_draw T) (hr.mono (by decide)) (by rfl) T.g__law_draw T.F__law_draw.kp T.b__law_draw .nil (fun _ => .nil) hx_of (va_cons (vpv 1) (va_cons ve_int va_nil))) ve_int) va_nil)))))
      (vss_cons (vs_set (i := 4) sc_law.nd rfl (Or.inl rfl) (ve_op ov_add ve_int (ve_call (ok__law_great T) (hr.mono (by decide)) (by rfl) T.g__law_great T.F__law_great.kp T.b__law_great .nil (fun _ => .nil) hx_of (va_cons (vpv 1) (va_cons ve_int va_nil)))))
      (vss_cons (vs_if (PW.pt (vw_or (vt_not (vt_val (ve_call (ok__law_free_right T) (hr.mono (by decide)) (by rfl) T.g__law_free_right T.F__law_free_right.kp T.b__law_free_right .nil (fun _ => .nil) hx_of (va_cons (vpv 1) (va_cons (vpv 3) (va_cons (vpv 4) va_nil)))))) (vw_or1 (vt_not (vt_val (ve_call (ok__law_best_right T) (hr.mono (by decide)) (by rfl) T.g__law_best_right T.F__law_best_right.kp T.b__law_best_right .nil (fun _ => .nil) hx_of (va_cons (vpv 1) (va_cons (vpv 3) (va_cons (vpv 4) va_nil))))))))) (vss_one (vs_ret ve_bl)) vss_nil)
      (vss_one (vs_if (vt_not (vt_val (ve_call (ok__law_refused_right T TB) (hr.mono (by decide)) (by rfl) T.g__law_refused_right T.F__law_refused_right.kp T.b__law_refused_right .nil (fun _ => .nil) hx_of (va_cons (vpv 1) va_nil)))) (vss_one (vs_ret ve_bl)) vss_nil))))))
      (vss_one (vs_ret ve_bl)))), fun ts n Q hl h => ?_⟩
  match ts, h with
  | [.scr ns], ⟨hl, n0, hq⟩ =>
    subst n0
    walk_at "w"
    refine for_inv (fun j n' ρ => n' ≤ 100 * j ∧ j ≤ 2 ∧ ∃ s2 s3 s4, ρ = [.v (.scr ns), .v .pen, s2, s3, s4]) ⟨Nat.zero_le _, by omega, _, _, _, rfl⟩ ?_ ?_
    · rintro j t n' ρ hj ⟨hn', hj2, s2, s3, s4, rfl⟩ K' hK
      obtain ⟨rfl, hj⟩ := rngT_get hj
      have hj : j < 2 := by
        have : (1 + if (ns.length : Int) < 1 then (ns.length : Int) else 1) ≤ 2 := by split <;> omega
        omega
      walk_at "w"
      intro d d0 d1
      walk_at "w"
      intro e e0 e1
      walk_at "w"
      intro f f0 f1
      walk_at "w"
      intro g n2 g0 gB hn2
      have gB1 : B 121 (1 + g) := ((B.lit (a := 1) (k := 1)).add gB).mono (by decide)
      walk_at "w"
      refine ⟨⟨by omega, by omega, by omega, by omega, by omega, by omega⟩, ?_⟩
      walk_at "w"
      intro n3 h3
      show brT false _ _ _ _ _
      walk_at "w"
      refine ⟨⟨by omega, by omega, by omega, by omega, by omega, by omega⟩, ?_⟩
      walk_at "w"
      intro n4 h4
      show brS false _ _ _ _ _
      walk_at "w"
      show brS false _ _ _ _ _
      walk_at "w"
      exact hK _ _ ⟨by omega, by omega, _, _, _, rfl⟩
    · rintro n' ρ ⟨hn', hj2, s2, s3, s4, rfl⟩
      walk_at "w"
      exact hq _
end
end K27
namespace K27
open PySem L2 DS VL NdefX LamX
set_option pp.maxSteps 300
section
variable {w : World} {K : PySem.W.Frag} {mg : Str → Option Value} {base : Heap}
def spLaw (K : PySem.W.Frag) (T : Tx w K mg) : Sp := spLawT K (gK T).TT
theorem spLaw_of (T : Tx w K mg) {H : Hp} {a : Addr} {ns : List Int} (hl : ns.length ≤ 63) (hs : SqL K H a (ns.map V.int)) (ht : H T.P__law_refused_right = some (.tbl #[])) : spLaw K T [.ref a] H (fun v _ => v = .bl true) (fun _ _ _ => False) := ⟨a, ns, rfl, hs, hl, fun p hp => by rw [List.mem_singleton.mp hp]; exact ht, fun _ => rfl⟩
theorem ok_law0 (T : Tx w K mg) (TB : LamX.TabB base mg T.c__law_refused_right T.P__law_refused_right) : FnOk PR w K mg base CX0 10 T.f_law T.fd_law ["_law_script"] (spLaw K T) := law_endT (ok_law T TB)
end
theorem all_mk {w : World} {K : PySem.W.Frag} {h : Heap} {mg : Str → Option Value} {fa : Addr} (X : K.In h) (G : h.Ns mainGlobals mg) (hfa : mg "law" = some (.ref fa))
    {C_BadValue f_BadValue___init__ cda_BadValue cc_BadValue N_BadValue : Addr} {oc_BadValue kV_BadValue dc_BadValue pm_BadValue ct_BadValue ccl_BadValue cl_BadValue : Value} {od_BadValue an_BadValue cdd_BadValue cld_BadValue dd_BadValue : Option Addr} {osl_BadValue ccs_BadValue csl_BadValue : Array (Option Value)} {vs_BadValue : Array Value} {fi_BadValue nm_BadValue qn_BadValue : Str} {tf_BadValue : Tok} {cdC_BadValue : ClassData}
    {bs_BadValue bm_BadValue su_BadValue : List Value} {sn_BadValue : List Str} {ab_BadValue : Bool} {col_BadValue : Option Bool} {k0_BadValue k1_BadValue k2_BadValue k3_BadValue k5_BadValue : Option Value}
    {C_Deal : Addr}
    {f_is_integer : Addr} {od0 an0 : Option Addr} {sl0 : Array (Option Value)} {oc0 kV0 dc0 pm0 cd0 ct0 : Value}
    {f_is_whole : Addr} {od1 an1 : Option Addr} {sl1 : Array (Option Value)} {oc1 kV1 dc1 pm1 cd1 ct1 : Value}
    {f_need_integer : Addr} {od2 an2 : Option Addr} {sl2 : Array (Option Value)} {oc2 kV2 dc2 pm2 cd2 ct2 : Value}
    {f_need_positive : Addr} {od3 an3 : Option Addr} {sl3 : Array (Option Value)} {oc3 kV3 dc3 pm3 cd3 ct3 : Value}
    {f_need_step : Addr} {od4 an4 : Option Addr} {sl4 : Array (Option Value)} {oc4 kV4 dc4 pm4 cd4 ct4 : Value}
    {f_need_items : Addr} {od5 an5 : Option Addr} {sl5 : Array (Option Value)} {oc5 kV5 dc5 pm5 cd5 ct5 : Value}
    {f_common_factor : Addr} {od6 an6 : Option Addr} {sl6 : Array (Option Value)} {oc6 kV6 dc6 pm6 cd6 ct6 : Value}
    {f_Deal___init__ : Addr} {od7 an7 : Option Addr} {sl7 : Array (Option Value)} {oc7 kV7 dc7 pm7 cd7 ct7 : Value}
    {dT7 : Addr} {do7 : Option Addr} {dn7 : Nat} {ds7 : Array (Option Value)} {dt7_0 : Tok}
    {f_is_step : Addr} {od8 an8 : Option Addr} {sl8 : Array (Option Value)} {oc8 kV8 dc8 pm8 cd8 ct8 : Value}
    {f_need_deal : Addr} {od9 an9 : Option Addr} {sl9 : Array (Option Value)} {oc9 kV9 dc9 pm9 cd9 ct9 : Value}
    {f_need_wants : Addr} {od10 an10 : Option Addr} {sl10 : Array (Option Value)} {oc10 kV10 dc10 pm10 cd10 ct10 : Value}
    {f_met : Addr} {od11 an11 : Option Addr} {sl11 : Array (Option Value)} {oc11 kV11 dc11 pm11 cd11 ct11 : Value}
    {f_free_shifts : Addr} {od12 an12 : Option Addr} {sl12 : Array (Option Value)} {oc12 kV12 dc12 pm12 cd12 ct12 : Value}
    {f_cost_at : Addr} {od13 an13 : Option Addr} {sl13 : Array (Option Value)} {oc13 kV13 dc13 pm13 cd13 ct13 : Value}
    {f_shift_cost : Addr} {od14 an14 : Option Addr} {sl14 : Array (Option Value)} {oc14 kV14 dc14 pm14 cd14 ct14 : Value}
    {f_tried_shifts : Addr} {od15 an15 : Option Addr} {sl15 : Array (Option Value)} {oc15 kV15 dc15 pm15 cd15 ct15 : Value}
    {f_best_shift : Addr} {od16 an16 : Option Addr} {sl16 : Array (Option Value)} {oc16 kV16 dc16 pm16 cd16 ct16 : Value}
    {f__law_pen : Addr} {od17 an17 : Option Addr} {sl17 : Array (Option Value)} {oc17 kV17 dc17 pm17 cd17 ct17 : Value}
    {f__law_draw : Addr} {od18 an18 : Option Addr} {sl18 : Array (Option Value)} {oc18 kV18 dc18 pm18 cd18 ct18 : Value}
    {f__law_pick : Addr} {od19 an19 : Option Addr} {sl19 : Array (Option Value)} {oc19 kV19 dc19 pm19 cd19 ct19 : Value}
    {f__law_great : Addr} {od20 an20 : Option Addr} {sl20 : Array (Option Value)} {oc20 kV20 dc20 pm20 cd20 ct20 : Value}
    {f__law_told : Addr} {od21 an21 : Option Addr} {sl21 : Array (Option Value)} {oc21 kV21 dc21 pm21 cd21 ct21 : Value}
    {f__law_sent : Addr} {od22 an22 : Option Addr} {sl22 : Array (Option Value)} {oc22 kV22 dc22 pm22 cd22 ct22 : Value}
    {f__law_cost : Addr} {od23 an23 : Option Addr} {sl23 : Array (Option Value)} {oc23 kV23 dc23 pm23 cd23 ct23 : Value}
    {f__law_step : Addr} {od24 an24 : Option Addr} {sl24 : Array (Option Value)} {oc24 kV24 dc24 pm24 cd24 ct24 : Value}
    {f__law_wants : Addr} {od25 an25 : Option Addr} {sl25 : Array (Option Value)} {oc25 kV25 dc25 pm25 cd25 ct25 : Value}
    {f__law_scaled : Addr} {od26 an26 : Option Addr} {sl26 : Array (Option Value)} {oc26 kV26 dc26 pm26 cd26 ct26 : Value}
    {f__law_free_right : Addr} {od27 an27 : Option Addr} {sl27 : Array (Option Value)} {oc27 kV27 dc27 pm27 cd27 ct27 : Value}
    {f__law_best_right : Addr} {od28 an28 : Option Addr} {sl28 : Array (Option Value)} {oc28 kV28 dc28 pm28 cd28 ct28 : Value}
    {f__law_refused_right cR29 P29 : Addr} {od29 an29 dL29 : Option Addr} {sl29 sL29 : Array (Option Value)} {oc29 kV29 dc29 pm29 cL29 ct29 : Value} {vL29 : Array Value}
    {f_law : Addr} {od30 an30 : Option Addr} {sl30 : Array (Option Value)} {oc30 kV30 dc30 pm30 cd30 ct30 : Value}
    (xC_BadValue : PySem.W.nsIn K mainGlobals "BadValue" = some (some (.ref C_BadValue)))
    (xi_BadValue : PySem.W.findIn K (.ref C_BadValue) "__init__" = some (some (.ref f_BadValue___init__)))
    (xl_BadValue : K.lookup f_BadValue___init__ = some ⟨oc_BadValue, od_BadValue, .func (PySem.W.ksFn "__init__" "BadValue.__init__" (defArgs s_BadValue___init__) (defBody s_BadValue___init__) (defScope s_BadValue___init__) .none kV_BadValue dc_BadValue pm_BadValue an_BadValue (.ref cda_BadValue) ct_BadValue cc_BadValue), osl_BadValue⟩)
    (xc_BadValue : PySem.W.codeIn K (.ref cda_BadValue) "BadValue.__init__" = true)
    (xd_BadValue : K.lookup cda_BadValue = some ⟨ccl_BadValue, cdd_BadValue, .fields vs_BadValue, ccs_BadValue⟩)
    (xv_BadValue : vs_BadValue[2]? = some (.str fi_BadValue tf_BadValue))
    (xf_BadValue : ((PR.main.file : Str) == fi_BadValue) = true)
    (xe_BadValue : K.lookup cc_BadValue = some ⟨cl_BadValue, cld_BadValue, .cell (some (.ref C_BadValue)), csl_BadValue⟩)
    (xk_BadValue : PySem.W.clsIn K C_BadValue = some cdC_BadValue)
    (xm_BadValue : PySem.W.mroIn K C_BadValue (.ref C_BadValue) = some true)
    (xt_BadValue : (PR.main.scope.names.lookup ("super" : Str)).isSome = false)
    (xa_BadValue : PySem.W.nsIn K cStatics "thirdparty.any" = some none)
    (xs_BadValue : PySem.W.ks_superIn K C_BadValue C_BadValue "__init__" = some (some (.builtin "ValueError.__init__")))
    (xb_BadValue : PySem.W.subIn K (.ref C_BadValue) (.type "ValueError") = some true)
    (xo_BadValue : K.lookup C_BadValue = some (excClassObj nm_BadValue qn_BadValue C_BadValue N_BadValue bs_BadValue bm_BadValue true sn_BadValue su_BadValue ab_BadValue col_BadValue dd_BadValue k0_BadValue k1_BadValue k2_BadValue k3_BadValue k5_BadValue "ValueError.__new__"))
    (xr_BadValue : PySem.HandSPX.refsVE bm_BadValue = true)
    (xw_BadValue : PySem.W.findIn K (.ref C_BadValue) "__setattr__" = some (some (.builtin "object.__setattr__")))
    (xx_BadValue : PySem.W.subIn K (.ref C_BadValue) (.type "BaseException") = some true)
    (xy_BadValue : PySem.W.typeIn K (.ref C_BadValue) = some (.type "type"))
    (xp_BadValue : PySem.W.keepIn K (.ref C_BadValue) = true)
    (xn_BadValue : PySem.W.findIn K (.ref C_BadValue) "value" = some none)
    (xj_BadValue : PySem.W.typeIn K (.ref f_BadValue___init__) = some (.type "function"))
    (xg_BadValue : PySem.W.findIn K (.ref C_BadValue) "__getattribute__" = some (some (.builtin "BaseException.__getattribute__")))
    (xh_BadValue : PySem.W.findIn K (.ref C_BadValue) "__getattr__" = some none)
    (xq_BadValue : PySem.W.hasDictIn K C_BadValue = true)
    (xz_BadValue : PySem.W.exmOne K (.ref C_BadValue) (.ref C_BadValue) = some true)
    (aC_Deal : PySem.W.nsIn K mainGlobals "Deal" = some (some (.ref C_Deal)))
    (pg_Deal : PySem.W.plainGet K C_Deal Str.empty = true)
    (hd_Deal : PySem.W.hasDictIn K C_Deal = true)
    (po_Deal : PySem.W.plainOver K C_Deal = true)
    (sa_Deal : PySem.W.findIn K (.ref C_Deal) "__setattr__" = some (some (.builtin "object.__setattr__")))
    (mk_Deal : PySem.W.makesIn K C_Deal = true)
    (kc_Deal : PySem.W.keepIn K (.ref C_Deal) = true)
    (tya_Deal : PySem.W.findIn K (.ref C_Deal) "__class__" = some (some (.builtin "object.__class__")))
    (tyb_Deal : PySem.W.specialIn K (.builtin "object.__class__") "__get__" = some (some (.builtin "getset_descriptor.__get__")))
    (tyc_Deal : PySem.W.takesIn K (.builtin "object.__class__") = some true)
    (tyd_Deal : PySem.W.mroIn K C_Deal (.type "object") = some true)
    (n_Deal_houses : PySem.W.findIn K (.ref C_Deal) "houses" = some none)
    (n_Deal_block : PySem.W.findIn K (.ref C_Deal) "block" = some none)
    (n_Deal_shift : PySem.W.findIn K (.ref C_Deal) "shift" = some none)
    (a0 : PySem.W.nsIn K mainGlobals "is_integer" = some (some (.ref f_is_integer)))
    (l0 : K.lookup f_is_integer = some ⟨oc0, od0, .func (PySem.W.fnOf "is_integer" "is_integer" (defArgs s_is_integer) (defBody s_is_integer) (defScope s_is_integer) .none kV0 dc0 pm0 an0 cd0 ct0), sl0⟩)
    (c0 : PySem.W.codeIn K cd0 "is_integer" = true)
    (k0 : PySem.W.keepIn K (.ref f_is_integer) = true)
    (a1 : PySem.W.nsIn K mainGlobals "is_whole" = some (some (.ref f_is_whole)))
    (l1 : K.lookup f_is_whole = some ⟨oc1, od1, .func (PySem.W.fnOf "is_whole" "is_whole" (defArgs s_is_whole) (defBody s_is_whole) (defScope s_is_whole) .none kV1 dc1 pm1 an1 cd1 ct1), sl1⟩)
    (c1 : PySem.W.codeIn K cd1 "is_whole" = true)
    (k1 : PySem.W.keepIn K (.ref f_is_whole) = true)
    (a2 : PySem.W.nsIn K mainGlobals "need_integer" = some (some (.ref f_need_integer)))
    (l2 : K.lookup f_need_integer = some ⟨oc2, od2, .func (PySem.W.fnOf "need_integer" "need_integer" (defArgs s_need_integer) (defBody s_need_integer) (defScope s_need_integer) .none kV2 dc2 pm2 an2 cd2 ct2), sl2⟩)
    (c2 : PySem.W.codeIn K cd2 "need_integer" = true)
    (k2 : PySem.W.keepIn K (.ref f_need_integer) = true)
    (a3 : PySem.W.nsIn K mainGlobals "need_positive" = some (some (.ref f_need_positive)))
    (l3 : K.lookup f_need_positive = some ⟨oc3, od3, .func (PySem.W.fnOf "need_positive" "need_positive" (defArgs s_need_positive) (defBody s_need_positive) (defScope s_need_positive) .none kV3 dc3 pm3 an3 cd3 ct3), sl3⟩)
    (c3 : PySem.W.codeIn K cd3 "need_positive" = true)
    (k3 : PySem.W.keepIn K (.ref f_need_positive) = true)
    (a4 : PySem.W.nsIn K mainGlobals "need_step" = some (some (.ref f_need_step)))
    (l4 : K.lookup f_need_step = some ⟨oc4, od4, .func (PySem.W.fnOf "need_step" "need_step" (defArgs s_need_step) (defBody s_need_step) (defScope s_need_step) .none kV4 dc4 pm4 an4 cd4 ct4), sl4⟩)
    (c4 : PySem.W.codeIn K cd4 "need_step" = true)
    (k4 : PySem.W.keepIn K (.ref f_need_step) = true)
    (a5 : PySem.W.nsIn K mainGlobals "need_items" = some (some (.ref f_need_items)))
    (l5 : K.lookup f_need_items = some ⟨oc5, od5, .func (PySem.W.fnOf "need_items" "need_items" (defArgs s_need_items) (defBody s_need_items) (defScope s_need_items) .none kV5 dc5 pm5 an5 cd5 ct5), sl5⟩)
    (c5 : PySem.W.codeIn K cd5 "need_items" = true)
    (k5 : PySem.W.keepIn K (.ref f_need_items) = true)
    (a6 : PySem.W.nsIn K mainGlobals "common_factor" = some (some (.ref f_common_factor)))
    (l6 : K.lookup f_common_factor = some ⟨oc6, od6, .func (PySem.W.fnOf "common_factor" "common_factor" (defArgs s_common_factor) (defBody s_common_factor) (defScope s_common_factor) .none kV6 dc6 pm6 an6 cd6 ct6), sl6⟩)
    (c6 : PySem.W.codeIn K cd6 "common_factor" = true)
    (k6 : PySem.W.keepIn K (.ref f_common_factor) = true)
    (a7 : PySem.W.findIn K (.ref C_Deal) "__init__" = some (some (.ref f_Deal___init__)))
    (i7 : PySem.W.isFn K (.ref f_Deal___init__) = true)
    (l7 : K.lookup f_Deal___init__ = some ⟨oc7, od7, .func (PySem.W.fnOf "__init__" "Deal.__init__" (defArgs s_Deal___init__) (defBody s_Deal___init__) (defScope s_Deal___init__) (.ref dT7) kV7 dc7 pm7 an7 cd7 ct7), sl7⟩)
    (c7 : PySem.W.codeIn K cd7 "Deal.__init__" = true)
    (k7 : PySem.W.keepIn K (.ref f_Deal___init__) = true)
    (e7 : K.lookup dT7 = some ⟨.type "tuple", do7, .seq #[.int 0 dt7_0] dn7, ds7⟩)
    (a8 : PySem.W.nsIn K mainGlobals "is_step" = some (some (.ref f_is_step)))
    (l8 : K.lookup f_is_step = some ⟨oc8, od8, .func (PySem.W.fnOf "is_step" "is_step" (defArgs s_is_step) (defBody s_is_step) (defScope s_is_step) .none kV8 dc8 pm8 an8 cd8 ct8), sl8⟩)
    (c8 : PySem.W.codeIn K cd8 "is_step" = true)
    (k8 : PySem.W.keepIn K (.ref f_is_step) = true)
    (a9 : PySem.W.nsIn K mainGlobals "need_deal" = some (some (.ref f_need_deal)))
    (l9 : K.lookup f_need_deal = some ⟨oc9, od9, .func (PySem.W.fnOf "need_deal" "need_deal" (defArgs s_need_deal) (defBody s_need_deal) (defScope s_need_deal) .none kV9 dc9 pm9 an9 cd9 ct9), sl9⟩)
    (c9 : PySem.W.codeIn K cd9 "need_deal" = true)
    (k9 : PySem.W.keepIn K (.ref f_need_deal) = true)
    (a10 : PySem.W.nsIn K mainGlobals "need_wants" = some (some (.ref f_need_wants)))
    (l10 : K.lookup f_need_wants = some ⟨oc10, od10, .func (PySem.W.fnOf "need_wants" "need_wants" (defArgs s_need_wants) (defBody s_need_wants) (defScope s_need_wants) .none kV10 dc10 pm10 an10 cd10 ct10), sl10⟩)
    (c10 : PySem.W.codeIn K cd10 "need_wants" = true)
    (k10 : PySem.W.keepIn K (.ref f_need_wants) = true)
    (a11 : PySem.W.nsIn K mainGlobals "met" = some (some (.ref f_met)))
    (l11 : K.lookup f_met = some ⟨oc11, od11, .func (PySem.W.fnOf "met" "met" (defArgs s_met) (defBody s_met) (defScope s_met) .none kV11 dc11 pm11 an11 cd11 ct11), sl11⟩)
    (c11 : PySem.W.codeIn K cd11 "met" = true)
    (k11 : PySem.W.keepIn K (.ref f_met) = true)
    (a12 : PySem.W.nsIn K mainGlobals "free_shifts" = some (some (.ref f_free_shifts)))
    (l12 : K.lookup f_free_shifts = some ⟨oc12, od12, .func (PySem.W.fnOf "free_shifts" "free_shifts" (defArgs s_free_shifts) (defBody s_free_shifts) (defScope s_free_shifts) .none kV12 dc12 pm12 an12 cd12 ct12), sl12⟩)
    (c12 : PySem.W.codeIn K cd12 "free_shifts" = true)
    (k12 : PySem.W.keepIn K (.ref f_free_shifts) = true)
    (a13 : PySem.W.nsIn K mainGlobals "cost_at" = some (some (.ref f_cost_at)))
    (l13 : K.lookup f_cost_at = some ⟨oc13, od13, .func (PySem.W.fnOf "cost_at" "cost_at" (defArgs s_cost_at) (defBody s_cost_at) (defScope s_cost_at) .none kV13 dc13 pm13 an13 cd13 ct13), sl13⟩)
    (c13 : PySem.W.codeIn K cd13 "cost_at" = true)
    (k13 : PySem.W.keepIn K (.ref f_cost_at) = true)
    (a14 : PySem.W.nsIn K mainGlobals "shift_cost" = some (some (.ref f_shift_cost)))
    (l14 : K.lookup f_shift_cost = some ⟨oc14, od14, .func (PySem.W.fnOf "shift_cost" "shift_cost" (defArgs s_shift_cost) (defBody s_shift_cost) (defScope s_shift_cost) .none kV14 dc14 pm14 an14 cd14 ct14), sl14⟩)
    (c14 : PySem.W.codeIn K cd14 "shift_cost" = true)
    (k14 : PySem.W.keepIn K (.ref f_shift_cost) = true)
    (a15 : PySem.W.nsIn K mainGlobals "tried_shifts" = some (some (.ref f_tried_shifts)))
    (l15 : K.lookup f_tried_shifts = some ⟨oc15, od15, .func (PySem.W.fnOf "tried_shifts" "tried_shifts" (defArgs s_tried_shifts) (defBody s_tried_shifts) (defScope s_tried_shifts) .none kV15 dc15 pm15 an15 cd15 ct15), sl15⟩)
    (c15 : PySem.W.codeIn K cd15 "tried_shifts" = true)
    (k15 : PySem.W.keepIn K (.ref f_tried_shifts) = true)
    (a16 : PySem.W.nsIn K mainGlobals "best_shift" = some (some (.ref f_best_shift)))
    (l16 : K.lookup f_best_shift = some ⟨oc16, od16, .func (PySem.W.fnOf "best_shift" "best_shift" (defArgs s_best_shift) (defBody s_best_shift) (defScope s_best_shift) .none kV16 dc16 pm16 an16 cd16 ct16), sl16⟩)
    (c16 : PySem.W.codeIn K cd16 "best_shift" = true)
    (k16 : PySem.W.keepIn K (.ref f_best_shift) = true)
    (a17 : PySem.W.nsIn K mainGlobals "_law_pen" = some (some (.ref f__law_pen)))
    (l17 : K.lookup f__law_pen = some ⟨oc17, od17, .func (PySem.W.fnOf "_law_pen" "_law_pen" (defArgs s__law_pen) (defBody s__law_pen) (defScope s__law_pen) .none kV17 dc17 pm17 an17 cd17 ct17), sl17⟩)
    (c17 : PySem.W.codeIn K cd17 "_law_pen" = true)
    (k17 : PySem.W.keepIn K (.ref f__law_pen) = true)
    (a18 : PySem.W.nsIn K mainGlobals "_law_draw" = some (some (.ref f__law_draw)))
    (l18 : K.lookup f__law_draw = some ⟨oc18, od18, .func (PySem.W.fnOf "_law_draw" "_law_draw" (defArgs s__law_draw) (defBody s__law_draw) (defScope s__law_draw) .none kV18 dc18 pm18 an18 cd18 ct18), sl18⟩)
    (c18 : PySem.W.codeIn K cd18 "_law_draw" = true)
    (k18 : PySem.W.keepIn K (.ref f__law_draw) = true)
    (a19 : PySem.W.nsIn K mainGlobals "_law_pick" = some (some (.ref f__law_pick)))
    (l19 : K.lookup f__law_pick = some ⟨oc19, od19, .func (PySem.W.fnOf "_law_pick" "_law_pick" (defArgs s__law_pick) (defBody s__law_pick) (defScope s__law_pick) .none kV19 dc19 pm19 an19 cd19 ct19), sl19⟩)
    (c19 : PySem.W.codeIn K cd19 "_law_pick" = true)
    (k19 : PySem.W.keepIn K (.ref f__law_pick) = true)
    (a20 : PySem.W.nsIn K mainGlobals "_law_great" = some (some (.ref f__law_great)))
    (l20 : K.lookup f__law_great = some ⟨oc20, od20, .func (PySem.W.fnOf "_law_great" "_law_great" (defArgs s__law_great) (defBody s__law_great) (defScope s__law_great) .none kV20 dc20 pm20 an20 cd20 ct20), sl20⟩)
    (c20 : PySem.W.codeIn K cd20 "_law_great" = true)
    (k20 : PySem.W.keepIn K (.ref f__law_great) = true)
    (a21 : PySem.W.nsIn K mainGlobals "_law_told" = some (some (.ref f__law_told)))
    (l21 : K.lookup f__law_told = some ⟨oc21, od21, .func (PySem.W.fnOf "_law_told" "_law_told" (defArgs s__law_told) (defBody s__law_told) (defScope s__law_told) .none kV21 dc21 pm21 an21 cd21 ct21), sl21⟩)
    (c21 : PySem.W.codeIn K cd21 "_law_told" = true)
    (k21 : PySem.W.keepIn K (.ref f__law_told) = true)
    (a22 : PySem.W.nsIn K mainGlobals "_law_sent" = some (some (.ref f__law_sent)))
    (l22 : K.lookup f__law_sent = some ⟨oc22, od22, .func (PySem.W.fnOf "_law_sent" "_law_sent" (defArgs s__law_sent) (defBody s__law_sent) (defScope s__law_sent) .none kV22 dc22 pm22 an22 cd22 ct22), sl22⟩)
    (c22 : PySem.W.codeIn K cd22 "_law_sent" = true)
    (k22 : PySem.W.keepIn K (.ref f__law_sent) = true)
    (a23 : PySem.W.nsIn K mainGlobals "_law_cost" = some (some (.ref f__law_cost)))
    (l23 : K.lookup f__law_cost = some ⟨oc23, od23, .func (PySem.W.fnOf "_law_cost" "_law_cost" (defArgs s__law_cost) (defBody s__law_cost) (defScope s__law_cost) .none kV23 dc23 pm23 an23 cd23 ct23), sl23⟩)
    (c23 : PySem.W.codeIn K cd23 "_law_cost" = true)
    (k23 : PySem.W.keepIn K (.ref f__law_cost) = true)
    (a24 : PySem.W.nsIn K mainGlobals "_law_step" = some (some (.ref f__law_step)))
    (l24 : K.lookup f__law_step = some ⟨oc24, od24, .func (PySem.W.fnOf "_law_step" "_law_step" (defArgs s__law_step) (defBody s__law_step) (defScope s__law_step) .none kV24 dc24 pm24 an24 cd24 ct24), sl24⟩)
    (c24 : PySem.W.codeIn K cd24 "_law_step" = true)
    (k24 : PySem.W.keepIn K (.ref f__law_step) = true)
    (a25 : PySem.W.nsIn K mainGlobals "_law_wants" = some (some (.ref f__law_wants)))
    (l25 : K.lookup f__law_wants = some ⟨oc25, od25, .func (PySem.W.fnOf "_law_wants" "_law_wants" (defArgs s__law_wants) (defBody s__law_wants) (defScope s__law_wants) .none kV25 dc25 pm25 an25 cd25 ct25), sl25⟩)
    (c25 : PySem.W.codeIn K cd25 "_law_wants" = true)
    (k25 : PySem.W.keepIn K (.ref f__law_wants) = true)
    (a26 : PySem.W.nsIn K mainGlobals "_law_scaled" = some (some (.ref f__law_scaled)))
    (l26 : K.lookup f__law_scaled = some ⟨oc26, od26, .func (PySem.W.fnOf "_law_scaled" "_law_scaled" (defArgs s__law_scaled) (defBody s__law_scaled) (defScope s__law_scaled) .none kV26 dc26 pm26 an26 cd26 ct26), sl26⟩)
    (c26 : PySem.W.codeIn K cd26 "_law_scaled" = true)
    (k26 : PySem.W.keepIn K (.ref f__law_scaled) = true)
    (a27 : PySem.W.nsIn K mainGlobals "_law_free_right" = some (some (.ref f__law_free_right)))
    (l27 : K.lookup f__law_free_right = some ⟨oc27, od27, .func (PySem.W.fnOf "_law_free_right" "_law_free_right" (defArgs s__law_free_right) (defBody s__law_free_right) (defScope s__law_free_right) .none kV27 dc27 pm27 an27 cd27 ct27), sl27⟩)
    (c27 : PySem.W.codeIn K cd27 "_law_free_right" = true)
    (k27 : PySem.W.keepIn K (.ref f__law_free_right) = true)
    (a28 : PySem.W.nsIn K mainGlobals "_law_best_right" = some (some (.ref f__law_best_right)))
    (l28 : K.lookup f__law_best_right = some ⟨oc28, od28, .func (PySem.W.fnOf "_law_best_right" "_law_best_right" (defArgs s__law_best_right) (defBody s__law_best_right) (defScope s__law_best_right) .none kV28 dc28 pm28 an28 cd28 ct28), sl28⟩)
    (c28 : PySem.W.codeIn K cd28 "_law_best_right" = true)
    (k28 : PySem.W.keepIn K (.ref f__law_best_right) = true)
    (a29 : PySem.W.nsIn K mainGlobals "_law_refused_right" = some (some (.ref f__law_refused_right)))
    (l29 : K.lookup f__law_refused_right = some ⟨oc29, od29, .func (PySem.W.fnOf "_law_refused_right" "_law_refused_right" (defArgs s__law_refused_right) (defBody s__law_refused_right) (defScope s__law_refused_right) .none kV29 dc29 pm29 an29 (.ref cR29) ct29), sl29⟩)
    (c29 : PySem.W.codeIn K (.ref cR29) "_law_refused_right" = true)
    (lc29 : K.lookup cR29 = some ⟨cL29, dL29, .fields vL29, sL29⟩)
    (lp29 : vL29[11]? = some (.ref P29))
    (lh29 : PySem.W.codeHdIn K cR29 P29 = true)
    (ln29 : K.lookup P29 = none)
    (lt29 : h.get? P29 = some { cls := .none, data := .fields #[] })
    (k29 : PySem.W.keepIn K (.ref f__law_refused_right) = true)
    (a30 : PySem.W.nsIn K mainGlobals "law" = some (some (.ref f_law)))
    (l30 : K.lookup f_law = some ⟨oc30, od30, .func (PySem.W.fnOf "law" "law" (defArgs s_law) (defBody s_law) (defScope s_law) .none kV30 dc30 pm30 an30 cd30 ct30), sl30⟩)
    (c30 : PySem.W.codeIn K cd30 "law" = true)
    (k30 : PySem.W.keepIn K (.ref f_law) = true)
    (z_bool : PySem.W.nsIn K mainGlobals "bool" = some none)
    (z_int : PySem.W.nsIn K mainGlobals "int" = some none)
    (z_isinstance : PySem.W.nsIn K mainGlobals "isinstance" = some none)
    (z_len : PySem.W.nsIn K mainGlobals "len" = some none)
    (z_list : PySem.W.nsIn K mainGlobals "list" = some none)
    (z_min : PySem.W.nsIn K mainGlobals "min" = some none)
    (z_range : PySem.W.nsIn K mainGlobals "range" = some none)
    (z_sum : PySem.W.nsIn K mainGlobals "sum" = some none)
    (z_super : PySem.W.nsIn K mainGlobals "super" = some none)
    (z_tuple : PySem.W.nsIn K mainGlobals "tuple" = some none)
    (oi_Deal_int : PySem.W.kitOne K (.ref C_Deal) (.type "int") = some false)
    (oi_Deal_bool : PySem.W.kitOne K (.ref C_Deal) (.type "bool") = some false)
    (oi_Deal_str : PySem.W.kitOne K (.ref C_Deal) (.type "str") = some false)
    (oi_Deal_list : PySem.W.kitOne K (.ref C_Deal) (.type "list") = some false)
    (oi_Deal_tuple : PySem.W.kitOne K (.ref C_Deal) (.type "tuple") = some false)
    (oi_Deal_dict : PySem.W.kitOne K (.ref C_Deal) (.type "dict") = some false)
    (is_Deal_NoneType : PySem.W.kitOne K (.type "NoneType") (.ref C_Deal) = some false)
    (is_Deal_bool : PySem.W.kitOne K (.type "bool") (.ref C_Deal) = some false)
    (is_Deal_int : PySem.W.kitOne K (.type "int") (.ref C_Deal) = some false)
    (is_Deal_str : PySem.W.kitOne K (.type "str") (.ref C_Deal) = some false)
    (is_Deal_tuple : PySem.W.kitOne K (.type "tuple") (.ref C_Deal) = some false)
    (is_Deal_list : PySem.W.kitOne K (.type "list") (.ref C_Deal) = some false)
    (is_Deal_dict : PySem.W.kitOne K (.type "dict") (.ref C_Deal) = some false)
    (ne_Deal : PySem.W.findIn K (.ref C_Deal) "__ne__" = some (some (.builtin "object.__ne__"))) :
    LamX.LawAtS PySem.Challenge.rw_dealtsums_k27_shifts w K CX0 10 63 "_law_script" mg fa h := by
  have e := hfa.symm.trans (PySem.W.mg_of X G a30)
  cases e
  have bX_BadValue : Binds K (PySem.W.ksFn "__init__" "BadValue.__init__" (defArgs s_BadValue___init__) (defBody s_BadValue___init__) (defScope s_BadValue___init__) .none kV_BadValue dc_BadValue pm_BadValue an_BadValue (.ref cda_BadValue) ct_BadValue cc_BadValue) ["self", "value"] [] := Binds.all fun us hl => match us, hl with | [_, _], _ => rfl
  have F0 := fun_mk (st := s_is_integer) l0 c0 k0
  have b0 := F0.binds (ps := ["value"]) fun _ _ _ _ _ _ us hl => match us, hl with | [_], _ => rfl
  have F1 := fun_mk (st := s_is_whole) l1 c1 k1
  have b1 := F1.binds (ps := ["value"]) fun _ _ _ _ _ _ us hl => match us, hl with | [_], _ => rfl
  have F2 := fun_mk (st := s_need_integer) l2 c2 k2
  have b2 := F2.binds (ps := ["value"]) fun _ _ _ _ _ _ us hl => match us, hl with | [_], _ => rfl
  have F3 := fun_mk (st := s_need_positive) l3 c3 k3
  have b3 := F3.binds (ps := ["value"]) fun _ _ _ _ _ _ us hl => match us, hl with | [_], _ => rfl
  have F4 := fun_mk (st := s_need_step) l4 c4 k4
  have b4 := F4.binds (ps := ["value"]) fun _ _ _ _ _ _ us hl => match us, hl with | [_], _ => rfl
  have F5 := fun_mk (st := s_need_items) l5 c5 k5
  have b5 := F5.binds (ps := ["value"]) fun _ _ _ _ _ _ us hl => match us, hl with | [_], _ => rfl
  have F6 := fun_mk (st := s_common_factor) l6 c6 k6
  have b6 := F6.binds (ps := ["one", "other"]) fun _ _ _ _ _ _ us hl => match us, hl with | [_, _], _ => rfl
  have F7 : FunD K "__init__" "Deal.__init__" (defArgs s_Deal___init__) (defBody s_Deal___init__) (defScope s_Deal___init__) [.int 0] [] f_Deal___init__ (PySem.W.fnOf "__init__" "Deal.__init__" (defArgs s_Deal___init__) (defBody s_Deal___init__) (defScope s_Deal___init__) (.ref dT7) kV7 dc7 pm7 an7 cd7 ct7) := ⟨⟨oc7, od7, .ref dT7, kV7, dc7, pm7, an7, cd7, ct7, sl7, rfl, l7, c7, .inr ⟨by simp, dT7, _, [.int 0 dt7_0], dn7, rfl, e7, rfl, .cons ⟨_, rfl⟩ (.nil)⟩, .inl rfl⟩, k7⟩
  obtain ⟨z7, hz7, b7⟩ := F7.binds1 (ps := ["self", "block", "houses", "shift"]) 4 1 (by simp) rfl fun _ _ _ _ _ _ _ us its h1 h2 => match us, h1, its, h2 with | [_, _, _, _], _, [_], _ => ⟨_, rfl, rfl⟩
  cases hz7
  obtain ⟨y7, hy7, bd7⟩ := F7.binds1 (ps := ["self", "block", "houses", "shift"]) 3 0 (by simp) rfl fun _ _ _ _ _ _ _ us its h1 h2 => match us, h1, its, h2 with | [_, _, _], _, [_], _ => ⟨_, rfl, rfl⟩
  have F8 := fun_mk (st := s_is_step) l8 c8 k8
  have b8 := F8.binds (ps := ["value"]) fun _ _ _ _ _ _ us hl => match us, hl with | [_], _ => rfl
  have F9 := fun_mk (st := s_need_deal) l9 c9 k9
  have b9 := F9.binds (ps := ["deal"]) fun _ _ _ _ _ _ us hl => match us, hl with | [_], _ => rfl
  have F10 := fun_mk (st := s_need_wants) l10 c10 k10
  have b10 := F10.binds (ps := ["wants", "is_last"]) fun _ _ _ _ _ _ us hl => match us, hl with | [_, _], _ => rfl
  have F11 := fun_mk (st := s_met) l11 c11 k11
  have b11 := F11.binds (ps := ["one", "other", "whole"]) fun _ _ _ _ _ _ us hl => match us, hl with | [_, _, _], _ => rfl
  have F12 := fun_mk (st := s_free_shifts) l12 c12 k12
  have b12 := F12.binds (ps := ["deal", "wants"]) fun _ _ _ _ _ _ us hl => match us, hl with | [_, _], _ => rfl
  have F13 := fun_mk (st := s_cost_at) l13 c13 k13
  have b13 := F13.binds (ps := ["deal", "part", "wants", "shift"]) fun _ _ _ _ _ _ us hl => match us, hl with | [_, _, _, _], _ => rfl
  have F14 := fun_mk (st := s_shift_cost) l14 c14 k14
  have b14 := F14.binds (ps := ["deal", "step", "wants", "shift"]) fun _ _ _ _ _ _ us hl => match us, hl with | [_, _, _, _], _ => rfl
  have F15 := fun_mk (st := s_tried_shifts) l15 c15 k15
  have b15 := F15.binds (ps := ["deal", "part", "wants"]) fun _ _ _ _ _ _ us hl => match us, hl with | [_, _, _], _ => rfl
  have F16 := fun_mk (st := s_best_shift) l16 c16 k16
  have b16 := F16.binds (ps := ["deal", "step", "wants"]) fun _ _ _ _ _ _ us hl => match us, hl with | [_, _, _], _ => rfl
  have F17 := fun_mk (st := s__law_pen) l17 c17 k17
  have b17 := F17.binds (ps := ["_law_script"]) fun _ _ _ _ _ _ us hl => match us, hl with | [_], _ => rfl
  have F18 := fun_mk (st := s__law_draw) l18 c18 k18
  have b18 := F18.binds (ps := ["_law_pen_here", "_law_span"]) fun _ _ _ _ _ _ us hl => match us, hl with | [_, _], _ => rfl
  have F19 := fun_mk (st := s__law_pick) l19 c19 k19
  have b19 := F19.binds (ps := ["_law_pen_here", "_law_menu"]) fun _ _ _ _ _ _ us hl => match us, hl with | [_, _], _ => rfl
  have F20 := fun_mk (st := s__law_great) l20 c20 k20
  have b20 := F20.binds (ps := ["_law_pen_here", "_law_figures"]) fun _ _ _ _ _ _ us hl => match us, hl with | [_, _], _ => rfl
  have F21 := fun_mk (st := s__law_told) l21 c21 k21
  have b21 := F21.binds (ps := ["_law_call"]) fun _ _ _ _ _ _ us hl => match us, hl with | [_], _ => rfl
  have F22 := fun_mk (st := s__law_sent) l22 c22 k22
  have b22 := F22.binds (ps := ["_law_deal", "_law_want", "_law_step_here", "_law_shift"]) fun _ _ _ _ _ _ us hl => match us, hl with | [_, _, _, _], _ => rfl
  have F23 := fun_mk (st := s__law_cost) l23 c23 k23
  have b23 := F23.binds (ps := ["_law_deal", "_law_step_here", "_law_wants_here", "_law_shift"]) fun _ _ _ _ _ _ us hl => match us, hl with | [_, _, _, _], _ => rfl
  have F24 := fun_mk (st := s__law_step) l24 c24 k24
  have b24 := F24.binds (ps := ["_law_pen_here"]) fun _ _ _ _ _ _ us hl => match us, hl with | [_], _ => rfl
  have F25 := fun_mk (st := s__law_wants) l25 c25 k25
  have b25 := F25.binds (ps := ["_law_pen_here", "_law_last"]) fun _ _ _ _ _ _ us hl => match us, hl with | [_, _], _ => rfl
  have F26 := fun_mk (st := s__law_scaled) l26 c26 k26
  have b26 := F26.binds (ps := ["_law_wants_here", "_law_times", "_law_steps"]) fun _ _ _ _ _ _ us hl => match us, hl with | [_, _, _], _ => rfl
  have F27 := fun_mk (st := s__law_free_right) l27 c27 k27
  have b27 := F27.binds (ps := ["_law_pen_here", "_law_deal", "_law_times"]) fun _ _ _ _ _ _ us hl => match us, hl with | [_, _, _], _ => rfl
  have F28 := fun_mk (st := s__law_best_right) l28 c28 k28
  have b28 := F28.binds (ps := ["_law_pen_here", "_law_deal", "_law_times"]) fun _ _ _ _ _ _ us hl => match us, hl with | [_, _, _], _ => rfl
  have F29 := fun_mk (st := s__law_refused_right) l29 c29 k29
  have b29 := F29.binds (ps := ["_law_pen_here"]) fun _ _ _ _ _ _ us hl => match us, hl with | [_], _ => rfl
  have F30 := fun_mk (st := s_law) l30 c30 k30
  have b30 := F30.binds (ps := ["_law_script"]) fun _ _ _ _ _ _ us hl => match us, hl with | [_], _ => rfl
  let T : Tx w K mg := {
    C_BadValue := C_BadValue,
    f_BadValue___init__ := f_BadValue___init__,
    fd_BadValue___init__ := PySem.W.ksFn "__init__" "BadValue.__init__" (defArgs s_BadValue___init__) (defBody s_BadValue___init__) (defScope s_BadValue___init__) .none kV_BadValue dc_BadValue pm_BadValue an_BadValue (.ref cda_BadValue) ct_BadValue cc_BadValue,
    gC_BadValue := PySem.W.mg_of X G xC_BadValue,
    X_BadValue := ⟨⟨_, _, _, _, _, _, _, _, _, _, _, _, _, _, _, _, _, _, _, _, rfl, xl_BadValue, xc_BadValue, xd_BadValue, xv_BadValue, xf_BadValue, xe_BadValue, xk_BadValue⟩, xm_BadValue, PySem.W.mg_none_of X G z_super, xt_BadValue, xa_BadValue, xs_BadValue, xb_BadValue, ⟨⟨_, _, _, _, _, _, _, _, _, _, _, _, _, _, _, xo_BadValue, xr_BadValue⟩, xw_BadValue, xx_BadValue, xy_BadValue, xp_BadValue⟩, xn_BadValue, xi_BadValue, xj_BadValue⟩,
    bX_BadValue := bX_BadValue,
    xf_BadValue := ⟨xg_BadValue, xh_BadValue, xx_BadValue, xq_BadValue⟩,
    em_BadValue := xz_BadValue,
    C_Deal := C_Deal,
    cl_Deal := ⟨pg_Deal, hd_Deal, po_Deal, sa_Deal⟩,
    gC_Deal := PySem.W.mg_of X G aC_Deal,
    n_Deal_houses := n_Deal_houses,
    n_Deal_block := n_Deal_block,
    n_Deal_shift := n_Deal_shift,
    f_is_integer := f_is_integer,
    fd_is_integer := PySem.W.fnOf "is_integer" "is_integer" (defArgs s_is_integer) (defBody s_is_integer) (defScope s_is_integer) .none kV0 dc0 pm0 an0 cd0 ct0,
    F_is_integer := F0,
    b_is_integer := b0,
    g_is_integer := PySem.W.mg_of X G a0,
    f_is_whole := f_is_whole,
    fd_is_whole := PySem.W.fnOf "is_whole" "is_whole" (defArgs s_is_whole) (defBody s_is_whole) (defScope s_is_whole) .none kV1 dc1 pm1 an1 cd1 ct1,
    F_is_whole := F1,
    b_is_whole := b1,
    g_is_whole := PySem.W.mg_of X G a1,
    f_need_integer := f_need_integer,
    fd_need_integer := PySem.W.fnOf "need_integer" "need_integer" (defArgs s_need_integer) (defBody s_need_integer) (defScope s_need_integer) .none kV2 dc2 pm2 an2 cd2 ct2,
    F_need_integer := F2,
    b_need_integer := b2,
    g_need_integer := PySem.W.mg_of X G a2,
    f_need_positive := f_need_positive,
    fd_need_positive := PySem.W.fnOf "need_positive" "need_positive" (defArgs s_need_positive) (defBody s_need_positive) (defScope s_need_positive) .none kV3 dc3 pm3 an3 cd3 ct3,
    F_need_positive := F3,
    b_need_positive := b3,
    g_need_positive := PySem.W.mg_of X G a3,
    f_need_step := f_need_step,
    fd_need_step := PySem.W.fnOf "need_step" "need_step" (defArgs s_need_step) (defBody s_need_step) (defScope s_need_step) .none kV4 dc4 pm4 an4 cd4 ct4,
    F_need_step := F4,
    b_need_step := b4,
    g_need_step := PySem.W.mg_of X G a4,
    f_need_items := f_need_items,
    fd_need_items := PySem.W.fnOf "need_items" "need_items" (defArgs s_need_items) (defBody s_need_items) (defScope s_need_items) .none kV5 dc5 pm5 an5 cd5 ct5,
    F_need_items := F5,
    b_need_items := b5,
    g_need_items := PySem.W.mg_of X G a5,
    f_common_factor := f_common_factor,
    fd_common_factor := PySem.W.fnOf "common_factor" "common_factor" (defArgs s_common_factor) (defBody s_common_factor) (defScope s_common_factor) .none kV6 dc6 pm6 an6 cd6 ct6,
    F_common_factor := F6,
    b_common_factor := b6,
    g_common_factor := PySem.W.mg_of X G a6,
    ds_Deal___init__ := y7,
    dv_Deal___init__ := hy7,
    bd_Deal___init__ := bd7,
    f_Deal___init__ := f_Deal___init__,
    fd_Deal___init__ := PySem.W.fnOf "__init__" "Deal.__init__" (defArgs s_Deal___init__) (defBody s_Deal___init__) (defScope s_Deal___init__) (.ref dT7) kV7 dc7 pm7 an7 cd7 ct7,
    F_Deal___init__ := F7,
    b_Deal___init__ := b7,
    M_Deal := ⟨mk_Deal, a7, i7, kc_Deal⟩,
    f_is_step := f_is_step,
    fd_is_step := PySem.W.fnOf "is_step" "is_step" (defArgs s_is_step) (defBody s_is_step) (defScope s_is_step) .none kV8 dc8 pm8 an8 cd8 ct8,
    F_is_step := F8,
    b_is_step := b8,
    g_is_step := PySem.W.mg_of X G a8,
    f_need_deal := f_need_deal,
    fd_need_deal := PySem.W.fnOf "need_deal" "need_deal" (defArgs s_need_deal) (defBody s_need_deal) (defScope s_need_deal) .none kV9 dc9 pm9 an9 cd9 ct9,
    F_need_deal := F9,
    b_need_deal := b9,
    g_need_deal := PySem.W.mg_of X G a9,
    f_need_wants := f_need_wants,
    fd_need_wants := PySem.W.fnOf "need_wants" "need_wants" (defArgs s_need_wants) (defBody s_need_wants) (defScope s_need_wants) .none kV10 dc10 pm10 an10 cd10 ct10,
    F_need_wants := F10,
    b_need_wants := b10,
    g_need_wants := PySem.W.mg_of X G a10,
    f_met := f_met,
    fd_met := PySem.W.fnOf "met" "met" (defArgs s_met) (defBody s_met) (defScope s_met) .none kV11 dc11 pm11 an11 cd11 ct11,
    F_met := F11,
    b_met := b11,
    g_met := PySem.W.mg_of X G a11,
    f_free_shifts := f_free_shifts,
    fd_free_shifts := PySem.W.fnOf "free_shifts" "free_shifts" (defArgs s_free_shifts) (defBody s_free_shifts) (defScope s_free_shifts) .none kV12 dc12 pm12 an12 cd12 ct12,
    F_free_shifts := F12,
    b_free_shifts := b12,
    g_free_shifts := PySem.W.mg_of X G a12,
    f_cost_at := f_cost_at,
    fd_cost_at := PySem.W.fnOf "cost_at" "cost_at" (defArgs s_cost_at) (defBody s_cost_at) (defScope s_cost_at) .none kV13 dc13 pm13 an13 cd13 ct13,
    F_cost_at := F13,
    b_cost_at := b13,
    g_cost_at := PySem.W.mg_of X G a13,
    f_shift_cost := f_shift_cost,
    fd_shift_cost := PySem.W.fnOf "shift_cost" "shift_cost" (defArgs s_shift_cost) (defBody s_shift_cost) (defScope s_shift_cost) .none kV14 dc14 pm14 an14 cd14 ct14,
    F_shift_cost := F14,
    b_shift_cost := b14,
    g_shift_cost := PySem.W.mg_of X G a14,
    f_tried_shifts := f_tried_shifts,
    fd_tried_shifts := PySem.W.fnOf "tried_shifts" "tried_shifts" (defArgs s_tried_shifts) (defBody s_tried_shifts) (defScope s_tried_shifts) .none kV15 dc15 pm15 an15 cd15 ct15,
    F_tried_shifts := F15,
    b_tried_shifts := b15,
    g_tried_shifts := PySem.W.mg_of X G a15,
    f_best_shift := f_best_shift,
    fd_best_shift := PySem.W.fnOf "best_shift" "best_shift" (defArgs s_best_shift) (defBody s_best_shift) (defScope s_best_shift) .none kV16 dc16 pm16 an16 cd16 ct16,
    F_best_shift := F16,
    b_best_shift := b16,
    g_best_shift := PySem.W.mg_of X G a16,
    f__law_pen := f__law_pen,
    fd__law_pen := PySem.W.fnOf "_law_pen" "_law_pen" (defArgs s__law_pen) (defBody s__law_pen) (defScope s__law_pen) .none kV17 dc17 pm17 an17 cd17 ct17,
    F__law_pen := F17,
    b__law_pen := b17,
    g__law_pen := PySem.W.mg_of X G a17,
    f__law_draw := f__law_draw,
    fd__law_draw := PySem.W.fnOf "_law_draw" "_law_draw" (defArgs s__law_draw) (defBody s__law_draw) (defScope s__law_draw) .none kV18 dc18 pm18 an18 cd18 ct18,
    F__law_draw := F18,
    b__law_draw := b18,
    g__law_draw := PySem.W.mg_of X G a18,
    f__law_pick := f__law_pick,
    fd__law_pick := PySem.W.fnOf "_law_pick" "_law_pick" (defArgs s__law_pick) (defBody s__law_pick) (defScope s__law_pick) .none kV19 dc19 pm19 an19 cd19 ct19,
    F__law_pick := F19,
    b__law_pick := b19,
    g__law_pick := PySem.W.mg_of X G a19,
    f__law_great := f__law_great,
    fd__law_great := PySem.W.fnOf "_law_great" "_law_great" (defArgs s__law_great) (defBody s__law_great) (defScope s__law_great) .none kV20 dc20 pm20 an20 cd20 ct20,
    F__law_great := F20,
    b__law_great := b20,
    g__law_great := PySem.W.mg_of X G a20,
    f__law_told := f__law_told,
    fd__law_told := PySem.W.fnOf "_law_told" "_law_told" (defArgs s__law_told) (defBody s__law_told) (defScope s__law_told) .none kV21 dc21 pm21 an21 cd21 ct21,
    F__law_told := F21,
    b__law_told := b21,
    g__law_told := PySem.W.mg_of X G a21,
    f__law_sent := f__law_sent,
    fd__law_sent := PySem.W.fnOf "_law_sent" "_law_sent" (defArgs s__law_sent) (defBody s__law_sent) (defScope s__law_sent) .none kV22 dc22 pm22 an22 cd22 ct22,
    F__law_sent := F22,
    b__law_sent := b22,
    g__law_sent := PySem.W.mg_of X G a22,
    f__law_cost := f__law_cost,
    fd__law_cost := PySem.W.fnOf "_law_cost" "_law_cost" (defArgs s__law_cost) (defBody s__law_cost) (defScope s__law_cost) .none kV23 dc23 pm23 an23 cd23 ct23,
    F__law_cost := F23,
    b__law_cost := b23,
    g__law_cost := PySem.W.mg_of X G a23,
    f__law_step := f__law_step,
    fd__law_step := PySem.W.fnOf "_law_step" "_law_step" (defArgs s__law_step) (defBody s__law_step) (defScope s__law_step) .none kV24 dc24 pm24 an24 cd24 ct24,
    F__law_step := F24,
    b__law_step := b24,
    g__law_step := PySem.W.mg_of X G a24,
    f__law_wants := f__law_wants,
    fd__law_wants := PySem.W.fnOf "_law_wants" "_law_wants" (defArgs s__law_wants) (defBody s__law_wants) (defScope s__law_wants) .none kV25 dc25 pm25 an25 cd25 ct25,
    F__law_wants := F25,
    b__law_wants := b25,
    g__law_wants := PySem.W.mg_of X G a25,
    f__law_scaled := f__law_scaled,
    fd__law_scaled := PySem.W.fnOf "_law_scaled" "_law_scaled" (defArgs s__law_scaled) (defBody s__law_scaled) (defScope s__law_scaled) .none kV26 dc26 pm26 an26 cd26 ct26,
    F__law_scaled := F26,
    b__law_scaled := b26,
    g__law_scaled := PySem.W.mg_of X G a26,
    f__law_free_right := f__law_free_right,
    fd__law_free_right := PySem.W.fnOf "_law_free_right" "_law_free_right" (defArgs s__law_free_right) (defBody s__law_free_right) (defScope s__law_free_right) .none kV27 dc27 pm27 an27 cd27 ct27,
    F__law_free_right := F27,
    b__law_free_right := b27,
    g__law_free_right := PySem.W.mg_of X G a27,
    f__law_best_right := f__law_best_right,
    fd__law_best_right := PySem.W.fnOf "_law_best_right" "_law_best_right" (defArgs s__law_best_right) (defBody s__law_best_right) (defScope s__law_best_right) .none kV28 dc28 pm28 an28 cd28 ct28,
    F__law_best_right := F28,
    b__law_best_right := b28,
    g__law_best_right := PySem.W.mg_of X G a28,
    c__law_refused_right := cR29,
    P__law_refused_right := P29,
    FC__law_refused_right := ⟨_, _, _, _, _, _, _, _, rfl, l29, c29⟩,
    f__law_refused_right := f__law_refused_right,
    fd__law_refused_right := PySem.W.fnOf "_law_refused_right" "_law_refused_right" (defArgs s__law_refused_right) (defBody s__law_refused_right) (defScope s__law_refused_right) .none kV29 dc29 pm29 an29 (.ref cR29) ct29,
    F__law_refused_right := F29,
    b__law_refused_right := b29,
    g__law_refused_right := PySem.W.mg_of X G a29,
    f_law := fa,
    fd_law := PySem.W.fnOf "law" "law" (defArgs s_law) (defBody s_law) (defScope s_law) .none kV30 dc30 pm30 an30 cd30 ct30,
    F_law := F30,
    b_law := b30,
    g_law := PySem.W.mg_of X G a30,
    z_bool := PySem.W.mg_none_of X G z_bool,
    z_int := PySem.W.mg_none_of X G z_int,
    z_isinstance := PySem.W.mg_none_of X G z_isinstance,
    z_len := PySem.W.mg_none_of X G z_len,
    z_list := PySem.W.mg_none_of X G z_list,
    z_min := PySem.W.mg_none_of X G z_min,
    z_range := PySem.W.mg_none_of X G z_range,
    z_sum := PySem.W.mg_none_of X G z_sum,
    z_tuple := PySem.W.mg_none_of X G z_tuple,
    oc_Deal := ⟨⟨pg_Deal, hd_Deal, po_Deal, sa_Deal⟩, tya_Deal, tyb_Deal, tyc_Deal, tyd_Deal, oi_Deal_int, oi_Deal_bool, oi_Deal_str, oi_Deal_list, oi_Deal_tuple, oi_Deal_dict⟩,
    ic_Deal := ⟨by unfold PySem.W.kitOne; rw [if_pos (by simp)], is_Deal_NoneType, is_Deal_bool, is_Deal_int, is_Deal_str, is_Deal_tuple, is_Deal_list, is_Deal_dict⟩,
    ne_Deal := ne_Deal,
    mo_Deal := tyd_Deal }
  refine ⟨T.fd_law, [(cR29, P29)], spLaw K T, ?_, ?_, ?_, fun s v => .of_eq rfl, fun H a ns hl hb ht hs => ?_, fun base _ _ tb => ?_⟩
  · intro p hp
    obtain rfl := List.mem_singleton.mp hp
    exact lt29
  · intro p hp
    obtain rfl := List.mem_singleton.mp hp
    exact ln29
  · intro p hp
    obtain rfl := List.mem_singleton.mp hp
    exact PySem.W.codeHd_of_K X lh29
  · exact spLaw_of T hl hs (ht (cR29, P29) (by simp))
  · exact ok_law0 T (tb (cR29, P29) (by simp))
end K27
open PySem PySem.W PyProof.Rows
set_option maxHeartbeats 0 in
theorem PySem.Challenge.cw_dealtsums_k27_shifts_holds : PySem.Challenge.rw_dealtsums_k27_shifts.Holds := by
  w_on; o_law; k_head; (case hw => w_witness2)
  k_fill
  refine LamX.walk_ofTs (l := PySem.Challenge.rw_dealtsums_k27_shifts) (n := 63) (k := 10) (x := "_law_script") (CX := fun _ => L2.CX0) rfl (by decide) rfl ⟨rfl, by decide, by decide⟩ (fun w h Y => PySem.W.km_in_of Y) ?F (fun _ _ _ _ _ h => h)
  case F =>
    intro w mg fa h Y KX G hmg
    refine' K27.all_mk KX G hmg ?xC_BadValue ?xi_BadValue ?xl_BadValue ?xc_BadValue ?xd_BadValue ?xv_BadValue ?xf_BadValue ?xe_BadValue ?xk_BadValue ?xm_BadValue ?xt_BadValue ?xa_BadValue ?xs_BadValue ?xb_BadValue ?xo_BadValue ?xr_BadValue ?xw_BadValue ?xx_BadValue ?xy_BadValue ?xp_BadValue ?xn_BadValue ?xj_BadValue ?xg_BadValue ?xh_BadValue ?xq_BadValue ?xz_BadValue ?aC_Deal ?pg_Deal ?hd_Deal ?po_Deal ?sa_Deal ?mk_Deal ?kc_Deal ?tya_Deal ?tyb_Deal ?tyc_Deal ?tyd_Deal ?n_Deal_houses ?n_Deal_block ?n_Deal_shift ?a0 ?l0 ?c0 ?k0 ?a1 ?l1 ?c1 ?k1 ?a2 ?l2 ?c2 ?k2 ?a3 ?l3 ?c3 ?k3 ?a4 ?l4 ?c4 ?k4 ?a5 ?l5 ?c5 ?k5 ?a6 ?l6 ?c6 ?k6 ?a7 ?i7 ?l7 ?c7 ?k7 ?e7 ?a8 ?l8 ?c8 ?k8 ?a9 ?l9 ?c9 ?k9 ?a10 ?l10 ?c10 ?k10 ?a11 ?l11 ?c11 ?k11 ?a12 ?l12 ?c12 ?k12 ?a13 ?l13 ?c13 ?k13 ?a14 ?l14 ?c14 ?k14 ?a15 ?l15 ?c15 ?k15 ?a16 ?l16 ?c16 ?k16 ?a17 ?l17 ?c17 ?k17 ?a18 ?l18 ?c18 ?k18 ?a19 ?l19 ?c19 ?k19 ?a20 ?l20 ?c20 ?k20 ?a21 ?l21 ?c21 ?k21 ?a22 ?l22 ?c22 ?k22 ?a23 ?l23 ?c23 ?k23 ?a24 ?l24 ?c24 ?k24 ?a25 ?l25 ?c25 ?k25 ?a26 ?l26 ?c26 ?k26 ?a27 ?l27 ?c27 ?k27 ?a28 ?l28 ?c28 ?k28 ?a29 ?l29 ?c29 ?lc29 ?lp29 ?lh29 ?ln29 ?lt29 ?k29 ?a30 ?l30 ?c30 ?k30 ?z_bool ?z_int ?z_isinstance ?z_len ?z_list ?z_min ?z_range ?z_sum ?z_super ?z_tuple ?oi_Deal_int ?oi_Deal_bool ?oi_Deal_str ?oi_Deal_list ?oi_Deal_tuple ?oi_Deal_dict ?is_Deal_NoneType ?is_Deal_bool ?is_Deal_int ?is_Deal_str ?is_Deal_tuple ?is_Deal_list ?is_Deal_dict ?ne_Deal
    (case xC_BadValue => k_is)
    (case xi_BadValue => k_is)
    (case xl_BadValue => k_is)
    (case xc_BadValue => k_is)
    (case xd_BadValue => k_is)
    (case xv_BadValue => rfl)
    (case xf_BadValue => decide +kernel)
    (case xe_BadValue => k_is)
    (case xk_BadValue => k_is)
    (case xm_BadValue => k_is)
    (case xt_BadValue => decide +kernel)
    (case xa_BadValue => k_is)
    (case xs_BadValue => kernel_rfl)
    (case xb_BadValue => k_is)
    (case xo_BadValue => k_is)
    (case xr_BadValue => rfl)
    (case xw_BadValue => k_is)
    (case xx_BadValue => k_is)
    (case xy_BadValue => k_is)
    (case xp_BadValue => k_is)
    (case xn_BadValue => k_is)
    (case xj_BadValue => k_is)
    (case xg_BadValue => k_is)
    (case xh_BadValue => k_is)
    (case xq_BadValue => k_is)
    (case xz_BadValue => kernel_rfl)
    (case aC_Deal => k_is)
    (case pg_Deal => k_is)
    (case hd_Deal => k_is)
    (case po_Deal => k_is)
    (case sa_Deal => k_is)
    (case mk_Deal => k_is)
    (case kc_Deal => k_is)
    (case tya_Deal => k_is)
    (case tyb_Deal => k_is)
    (case tyc_Deal => k_is)
    (case tyd_Deal => k_is)
    (case n_Deal_houses => k_is)
    (case n_Deal_block => k_is)
    (case n_Deal_shift => k_is)
    (case a0 => k_is)
    (case l0 => k_is)
    (case c0 => k_is)
    (case k0 => k_is)
    (case a1 => k_is)
    (case l1 => k_is)
    (case c1 => k_is)
    (case k1 => k_is)
    (case a2 => k_is)
    (case l2 => k_is)
    (case c2 => k_is)
    (case k2 => k_is)
    (case a3 => k_is)
    (case l3 => k_is)
    (case c3 => k_is)
    (case k3 => k_is)
    (case a4 => k_is)
    (case l4 => k_is)
    (case c4 => k_is)
    (case k4 => k_is)
    (case a5 => k_is)
    (case l5 => k_is)
    (case c5 => k_is)
    (case k5 => k_is)
    (case a6 => k_is)
    (case l6 => k_is)
    (case c6 => k_is)
    (case k6 => k_is)
    (case a7 => k_is)
    (case i7 => k_is)
    (case l7 => k_is)
    (case c7 => k_is)
    (case k7 => k_is)
    (case e7 => k_is)
    (case a8 => k_is)
    (case l8 => k_is)
    (case c8 => k_is)
    (case k8 => k_is)
    (case a9 => k_is)
    (case l9 => k_is)
    (case c9 => k_is)
    (case k9 => k_is)
    (case a10 => k_is)
    (case l10 => k_is)
    (case c10 => k_is)
    (case k10 => k_is)
    (case a11 => k_is)
    (case l11 => k_is)
    (case c11 => k_is)
    (case k11 => k_is)
    (case a12 => k_is)
    (case l12 => k_is)
    (case c12 => k_is)
    (case k12 => k_is)
    (case a13 => k_is)
    (case l13 => k_is)
    (case c13 => k_is)
    (case k13 => k_is)
    (case a14 => k_is)
    (case l14 => k_is)
    (case c14 => k_is)
    (case k14 => k_is)
    (case a15 => k_is)
    (case l15 => k_is)
    (case c15 => k_is)
    (case k15 => k_is)
    (case a16 => k_is)
    (case l16 => k_is)
    (case c16 => k_is)
    (case k16 => k_is)
    (case a17 => k_is)
    (case l17 => k_is)
    (case c17 => k_is)
    (case k17 => k_is)
    (case a18 => k_is)
    (case l18 => k_is)
    (case c18 => k_is)
    (case k18 => k_is)
    (case a19 => k_is)
    (case l19 => k_is)
    (case c19 => k_is)
    (case k19 => k_is)
    (case a20 => k_is)
    (case l20 => k_is)
    (case c20 => k_is)
    (case k20 => k_is)
    (case a21 => k_is)
    (case l21 => k_is)
    (case c21 => k_is)
    (case k21 => k_is)
    (case a22 => k_is)
    (case l22 => k_is)
    (case c22 => k_is)
    (case k22 => k_is)
    (case a23 => k_is)
    (case l23 => k_is)
    (case c23 => k_is)
    (case k23 => k_is)
    (case a24 => k_is)
    (case l24 => k_is)
    (case c24 => k_is)
    (case k24 => k_is)
    (case a25 => k_is)
    (case l25 => k_is)
    (case c25 => k_is)
    (case k25 => k_is)
    (case a26 => k_is)
    (case l26 => k_is)
    (case c26 => k_is)
    (case k26 => k_is)
    (case a27 => k_is)
    (case l27 => k_is)
    (case c27 => k_is)
    (case k27 => k_is)
    (case a28 => k_is)
    (case l28 => k_is)
    (case c28 => k_is)
    (case k28 => k_is)
    (case a29 => k_is)
    (case l29 => k_is)
    (case c29 => k_is)
    (case lc29 => k_is)
    (case lp29 => rfl)
    (case lh29 => kernel_rfl)
    (case ln29 => kernel_rfl)
    (case lt29 => exact PySem.W.km_tabs_of Y _ (by decide))
    (case k29 => k_is)
    (case a30 => k_is)
    (case l30 => k_is)
    (case c30 => k_is)
    (case k30 => k_is)
    (case z_bool => k_is)
    (case z_int => k_is)
    (case z_isinstance => k_is)
    (case z_len => k_is)
    (case z_list => k_is)
    (case z_min => k_is)
    (case z_range => k_is)
    (case z_sum => k_is)
    (case z_super => k_is)
    (case z_tuple => k_is)
    (case oi_Deal_int => kernel_rfl)
    (case oi_Deal_bool => kernel_rfl)
    (case oi_Deal_str => kernel_rfl)
    (case oi_Deal_list => kernel_rfl)
    (case oi_Deal_tuple => kernel_rfl)
    (case oi_Deal_dict => kernel_rfl)
    (case is_Deal_NoneType => kernel_rfl)
    (case is_Deal_bool => kernel_rfl)
    (case is_Deal_int => kernel_rfl)
    (case is_Deal_str => kernel_rfl)
    (case is_Deal_tuple => kernel_rfl)
    (case is_Deal_list => kernel_rfl)
    (case is_Deal_dict => kernel_rfl)
    (case ne_Deal => k_is)
