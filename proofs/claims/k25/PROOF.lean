import PyProof.Rows.All
import Wide.All
import OpenK.AllK
import Wide.FinOn
import HandS.ForMost
import HandS.Wide
import HandS.WideBits
import HandS.IsInst
import HandS.Defaults
import HandS.Style
import HandS.OwnEq
import HandS.More
import KE.KOpsOwn
import HandS.Lambda
import HandS.EndTab
import KE.KNestM
import KE.OsRunLaw
import KE.KFmtOwn
import HandS.ForExc
import HandS.Small
import HandS.ExcInit
import HandS.Nested
import KE.KExcSuper
import HandS.ExcField
import HandS.DictComp
import OpenK.KMeth
import PyProof.StrBlock2
import KE.IntTextLaws
import HandS.ExcIs
import HandS.TryMany
import HandS.TryOnly
import HandS.SortInts
import HandS.CallLocal
import HandS.Deep
import HandS.TupSets
import PyProof.NeKinds
import KE.KItemsList
import HandS.ListItems
import HandS.SetBool
import HandS.Strs
import PyProof.StrOps2
import HandS.Text
import PyProof.MeetsSeq3
import PyProof.LongRange
import HandS.Flow
import HandS.Conv
import HandS.Exc
import PyProof.RulesAs
import HandS.SortOrd
import HandS.Star
import PySem.Challenge.RW_dealtsums_k25_items_sent_below_a_length
set_option Elab.async false
set_option linter.all false
set_option maxRecDepth 100000
set_option maxHeartbeats 4000000
namespace DS
open PySem L2
/-! ### heaps -/
/-- what never changes once it is made: all but dicts -/
def stab : HO → Bool
  | .dK _ => false
  | _ => true
def Keep (H H' : Hp) : Prop := ∀ b o, H b = some o → stab o = true → H' b = some o
theorem Keep.refl (H : Hp) : Keep H H := fun _ _ h _ => h
theorem Keep.trans {H H1 H2 : Hp} (a : Keep H H1) (b : Keep H1 H2) : Keep H H2 := fun c o h s => b c o (a c o h s) s
theorem Keep.of {H H' : Hp} (s : Same H H') : Keep H H' := fun b o h _ => s b o h
theorem Same.keep {H H1 H2 : Hp} (a : Same H H1) (b : Keep H1 H2) : Keep H H2 := (Keep.of a).trans b
theorem Keep.same {H H1 H2 : Hp} (a : Keep H H1) (b : Same H1 H2) : Keep H H2 := a.trans (Keep.of b)
theorem same_upd {H : Hp} {p : Addr} {o : HO} (h : H p = none) : Same H (upd H p o) := fun b x e => by
  rw [upd_ne (ne_of_none e h)]
  exact e
theorem keep_dict {H : Hp} {p : Addr} {kvs kvs' : List (Key × V)} (h : H p = some (.dK kvs)) : Keep H (upd H p (.dK kvs')) := fun b o e s => by
  have n : b ≠ p := fun z => by
    subst z
    rw [h] at e
    cases e
    cases s
  rw [upd_ne n]
  exact e
/-! ### steps of a reading -/
section
variable {σ : St} {H : Hp} {Q : VK} {D : Ends} {t u : TS} {te ta tb tc : TE} {g : TG} {c c' : TT} {x y v : V} {i : Nat} {r r' : R2} {tl tr : TA}
theorem w_seq (h : t { D with nx := u D } σ H) : tSeq t u D σ H := h
theorem w_next (h : D.nx σ H) : tNext D σ H := h
theorem w_brk (h : D.bk σ H) : tBreak D σ H := h
theorem w_cont (h : D.ct σ H) : tCont D σ H := h
theorem w_asg (h : te σ H fun x H1 => g x σ H1 D.nx) : tAsg te g D σ H := h
theorem w_name {R : St → Hp → Prop} (h : R (σ.set i (some v)) H) : gName i v σ H R := h
theorem w_par {j : Nat} (h : tl σ H fun vs H1 => ∃ v w, vs = [v, w] ∧ D.nx ((σ.set i (some v)).set j (some w)) H1) : tPar i j tl D σ H := h
theorem w_two {w : V} {P : V → V → Prop} (h : P v w) : ∃ v' w', [v, w] = [v', w'] ∧ P v' w' := ⟨v, w, rfl, h⟩
theorem w_three {w z : V} {P : V → V → V → Prop} (h : P v w z) : ∃ v' w' z', [v, w, z] = [v', w', z'] ∧ P v' w' z' := ⟨v, w, z, rfl, h⟩
theorem w_par3 {j l : Nat} (h : tl σ H fun vs H1 => ∃ v w z, vs = [v, w, z] ∧ D.nx (((σ.set i (some v)).set j (some w)).set l (some z)) H1) : tPar3 i j l tl D σ H := h
theorem w_ret (h : te σ H D.rt) : tRet te D σ H := h
theorem w_retN (h : D.rt .non H) : tRetN D σ H := h
theorem w_drop (h : te σ H fun _ H1 => D.nx σ H1) : tDrop te D σ H := h
theorem w_ifs (h : c σ H fun b H1 => if b = true then t D σ H1 else u D σ H1) : tIfS c t u D σ H := h
theorem w_var (e : σ[i]? = some (some v)) (h : Q v H) : tVar i σ H Q := ⟨v, e, h⟩
theorem w_c (h : Q v H) : tC v σ H Q := h
theorem w_op (h : ta σ H fun x H1 => tb σ H1 fun y H2 => r x y H2 Q) : tOp r ta tb σ H Q := h
theorem w_un {r : V → Hp → VK → Prop} (h : ta σ H fun x H1 => r x H1 Q) : tUn r ta σ H Q := h
theorem w_I0 {g : Int → Int → V} {i j : Int} (h : Q (g i j) H) : rI0 g (.int i) (.int j) H Q := ⟨i, j, rfl, rfl, h⟩
theorem w_I {C : Int → Int → Prop} {g : Int → Int → V} {i j : Int} (k : C i j) (h : Q (g i j) H) : rI C g (.int i) (.int j) H Q := ⟨i, j, rfl, rfl, k, h⟩
theorem w_U {g : Int → V} {i : Int} (h : Q (g i) H) : rU g (.int i) H Q := ⟨i, rfl, h⟩
theorem w_test {R : Bool → Hp → Prop} (h : te σ H fun x H' => ∃ k, x = .bl k ∧ R k H') : tTest te σ H R := h
theorem w_B {R : Bool → Hp → Prop} (h : te σ H fun x H' => ∃ k, x = .bl k ∧ R k H') : tB te σ H R := h
theorem w_k {k : Bool} {P : Bool → Prop} (h : P k) : ∃ k', V.bl k = .bl k' ∧ P k' := ⟨k, rfl, h⟩
theorem w_eq (s : scal x y = true) (h : Q (.bl (decide (x = y))) H) : rEq x y H Q := ⟨s, h⟩
theorem w_ne (s : scal x y = true) (h : Q (.bl (!decide (x = y))) H) : rNe x y H Q := ⟨s, h⟩
theorem w_isN (h : Q (.bl (decide (x = .non))) H) : (V.non = .non ∧ Q (.bl (decide (x = .non))) H) := ⟨rfl, h⟩
theorem w_notN (h : Q (.bl (!decide (x = .non))) H) : (V.non = .non ∧ Q (.bl (!decide (x = .non))) H) := ⟨rfl, h⟩
theorem w_not {R : Bool → Hp → Prop} (h : c σ H fun b H1 => R (!b) H1) : tNot c σ H R := h
theorem w_and {R : Bool → Hp → Prop} (h : c σ H fun b H1 => if b = true then c' σ H1 R else R false H1) : tAnd c c' σ H R := h
theorem w_or {R : Bool → Hp → Prop} (h : c σ H fun b H1 => if b = true then R true H1 else c' σ H1 R) : tOr c c' σ H R := h
theorem w_andV (h : ta σ H fun x H1 => ∃ k, x = .bl k ∧ if k = true then tb σ H1 Q else Q (.bl false) H1) : tAndV ta tb σ H Q := h
theorem w_orV (h : ta σ H fun x H1 => ∃ k, x = .bl k ∧ if k = true then Q (.bl true) H1 else tb σ H1 Q) : tOrV ta tb σ H Q := h
theorem w_notV (h : ta σ H fun x H1 => ∃ k, x = .bl k ∧ Q (.bl (!k)) H1) : tNotV ta σ H Q := h
theorem w_if (h : c σ H fun b H1 => if b = true then ta σ H1 Q else tb σ H1 Q) : tIf c ta tb σ H Q := h
theorem w_chain (h : ta σ H fun x H1 => tb σ H1 fun y H2 => r x y H2 fun z H3 => ∃ k, z = .bl k ∧ (if k = true then tc σ H3 fun w' H4 => r' y w' H4 Q else Q (.bl false) H3)) : tChain r r' ta tb tc σ H Q := h
theorem w_cons {R : List V → Hp → Prop} (h : ta σ H fun x H1 => tr σ H1 fun xs H2 => R (x :: xs) H2) : tCons ta tr σ H R := h
theorem w_nil {R : List V → Hp → Prop} (h : R [] H) : tNil σ H R := h
theorem w_cb {r : List V → Hp → VK → Prop} (h : tl σ H fun vs H1 => r vs H1 Q) : tCB r tl σ H Q := h
theorem w_call {sp : Sp} {dvs : List V} {E : XK} (h : tl σ H fun vs H1 => sp (vs ++ dvs) H1 Q E) : tCall sp dvs E tl σ H Q := h
theorem w_tup (h : ∀ Q' : VK, Q' = Q → tl σ H fun xs H1 => xs.length ≤ sizeLine ∧ ∀ p, H1 p = none → Q' (.ref p) (upd H1 p (.tup xs))) : tTup tl σ H Q := h Q rfl
theorem w_lst (h : ∀ Q' : VK, Q' = Q → tl σ H fun xs H1 => xs.length ≤ sizeLine ∧ ∀ p, H1 p = none → Q' (.ref p) (upd H1 p (.lst xs))) : tLst tl σ H Q := h Q rfl
theorem w_new {o : HO} {n : Nat} {Q' : VK} (e : Q' = Q) (l : n ≤ sizeLine) (h : ∀ p H', H p = none → Same H H' → H' p = some o → Q (.ref p) H') : n ≤ sizeLine ∧ ∀ p, H p = none → Q' (.ref p) (upd H p o) := by
  subst e
  exact ⟨l, fun p hp => h p _ hp (same_upd hp) upd_same⟩
theorem w_newA {o : HO} {Q' : VK} (e : Q' = Q) (h : ∀ p H', H p = none → Same H H' → H' p = some o → Q (.ref p) H') : ∀ p, H p = none → Q' (.ref p) (upd H p o) := by
  subst e
  exact fun p hp => h p _ hp (same_upd hp) upd_same
theorem w_int1 {n : Int} {P : Int → Prop} {R : Prop} (h : P n) : (∃ i, [V.int n] = [.int i] ∧ P i) ∨ R := .inl ⟨n, rfl, h⟩
theorem w_int1b {b : Bool} {P : Bool → Prop} {R : Prop} (h : P b) : R ∨ ∃ k, [V.bl b] = [.bl k] ∧ P k := .inr ⟨b, rfl, h⟩
theorem w_lenL {K : PySem.W.Frag} {p : Addr} {xs : List V} {P : List V → Prop} (e : H p = some (.lst xs)) (h : P xs) : ∃ q ys, [V.ref p] = [.ref q] ∧ (SqL K H q ys ∨ SqT K H q ys) ∧ P ys := ⟨p, xs, rfl, .inl (.inl (.inl e)), h⟩
theorem w_lenT {K : PySem.W.Frag} {p : Addr} {xs : List V} {P : List V → Prop} (e : H p = some (.tup xs)) (h : P xs) : ∃ q ys, [V.ref p] = [.ref q] ∧ (SqL K H q ys ∨ SqT K H q ys) ∧ P ys := ⟨p, xs, rfl, .inr (.inl (.inl e)), h⟩
theorem w_one {R : Int → Prop} {n : Int} (h : R n) : ∃ i, [V.int n] = [.int i] ∧ R i := ⟨n, rfl, h⟩
theorem w_ixL {K : PySem.W.Frag} {p : Addr} {xs : List V} {n : Int} (e : H p = some (.lst xs)) (a : atI xs n = some v) (h : Q v H) : rIxL K (.ref p) (.int n) H Q := ⟨p, xs, n, v, rfl, rfl, .inl (.inl e), a, h⟩
theorem w_ixT {K : PySem.W.Frag} {p : Addr} {xs : List V} {n : Int} (e : H p = some (.tup xs)) (a : atI xs n = some v) (h : Q v H) : rIxT K (.ref p) (.int n) H Q := ⟨p, xs, n, v, rfl, rfl, .inl (.inl e), a, h⟩
theorem w_fld {K : PySem.W.Frag} {f : Str} (h : ta σ H fun x H1 => ∃ a C dx fs v, x = .ref a ∧ H1 a = some (.ins C dx fs) ∧ Cls K C ∧ NoAttr K C f ∧ fs.lookup f = some v ∧ Q v H1) : tFld K ta f σ H Q := h
theorem w_dget (h : ta σ H fun x H1 => tb σ H1 fun y H2 => ∃ a v, x = .ref a ∧ DGet H2 a y (some v) ∧ Q v H2) : tDGet ta tb σ H Q := h
theorem w_dg {d : Addr} {kvs : List (Key × V)} {z : Str} {P : V → Prop} (e : H d = some (.dK kvs)) (a : valV kvs (Sum.inr z) = some v) (h : P v) : ∃ a v, V.ref d = .ref a ∧ DGet H a (.str z) (some v) ∧ P v := ⟨d, v, rfl, a ▸ DGet.k (k := Sum.inr z) e, h⟩
theorem w_dput (h : tc σ H fun v H1 => ta σ H1 fun x H2 => tb σ H2 fun y H3 => ∃ a H4, x = .ref a ∧ DPut H3 a y v H4 ∧ D.nx σ H4) : sDPut ta tb tc D σ H := h
theorem w_dp {d : Addr} {kvs : List (Key × V)} {z : Str} {R : Hp → Prop} (e : H d = some (.dK kvs)) (l : kvs.length < sizeLine) (h : R (upd H d (.dK (putK kvs (Sum.inr z) v)))) : ∃ a H4, V.ref d = .ref a ∧ DPut H a (.str z) v H4 ∧ R H4 := ⟨d, _, rfl, DPut.k (k := Sum.inr z) e l, h⟩
theorem w_meth {C : Addr} {m : Str} {sp : Sp} {dvs : List V} {E : XK} (h : ta σ H fun x H1 => ∃ a dx fs, x = .ref a ∧ H1 a = some (.ins C dx fs) ∧ fs.lookup m = none ∧ tl σ H1 fun vs H2 => sp (x :: (vs ++ dvs)) H2 Q E) : tMeth C m sp dvs E ta tl σ H Q := h
theorem w_make {C : Addr} {sp : Sp} {dvs : List V} {E : XK} (h : ∀ Q' : VK, Q' = Q → tl σ H fun vs H1 => ∀ x dx, H1 x = none → H1 dx = none → dx ≠ x → sp (.ref x :: (vs ++ dvs)) (upd (upd H1 dx (.own x)) x (.ins C dx [])) (fun v H2 => v = .non ∧ Q' (.ref x) H2) E) : tMake C sp dvs E tl σ H Q := h Q rfl
theorem w_gtup {K : PySem.W.Frag} {n : Nat} {ts : TGs} {R : St → Hp → Prop} {a : Addr} {xs : List V} (e : H a = some (.tup xs)) (l : xs.length = n) (h : ts xs σ H R) : gTup K n ts (.ref a) σ H R := ⟨a, xs, rfl, .inl (.inl e), l, h⟩
theorem w_gcons {g : TG} {gs : TGs} {xs : List V} {R : St → Hp → Prop} (h : g v σ H fun σ' H' => gs xs σ' H' R) : gCons g gs (v :: xs) σ H R := ⟨v, xs, rfl, h⟩
theorem w_gnil {R : St → Hp → Prop} (h : R σ H) : gNil [] σ H R := ⟨rfl, h⟩
theorem w_ite {p A B : Prop} [Decidable p] (h1 : p → A) (h2 : ¬ p → B) : if decide p = true then A else B := by
  by_cases h : p
  · rw [decide_eq_true h]; exact iteT (h1 h)
  · rw [decide_eq_false h]; exact iteF (h2 h)
theorem w_iteN {p A B : Prop} [Decidable p] (h1 : ¬ p → A) (h2 : p → B) : if (!decide p) = true then A else B := by
  by_cases h : p
  · rw [decide_eq_true h]; exact iteF (h2 h)
  · rw [decide_eq_false h]; exact iteT (h1 h)
theorem w_iteB {b : Bool} {A B : Prop} (h1 : b = true → A) (h2 : b = false → B) : if b = true then A else B := by
  cases b with
  | true => exact iteT (h1 rfl)
  | false => exact iteF (h2 rfl)
end
/-! ### products of any size -/
def CMulA (i j : Int) : Prop := CMul i j ∨ CMulW i j
theorem CMulA.s1 {i j : Int} (h : -(2 ^ 64) < i) (h2 : i < 2 ^ 64) : CMulA i j := .inl (.inl ⟨h, h2⟩)
theorem CMulA.s2 {i j : Int} (h : -(2 ^ 64) < j) (h2 : j < 2 ^ 64) : CMulA i j := .inl (.inr ⟨h, h2⟩)
section
variable {X : Cx}
theorem op_mulA : OpR X (binaryOp .Mult) (rI CMulA fun i j => .int (i * j)) := by
  intro pins s σ H x y v u Q I rx ry h
  obtain ⟨i, j, ex, ey, hc, q⟩ := h
  rcases hc with hc | hc
  · exact op_mul pins s σ H x y v u Q I rx ry ⟨i, j, ex, ey, hc, q⟩
  · exact op_mulW pins s σ H x y v u Q I rx ry ⟨i, j, ex, ey, hc, q⟩
end
theorem V_int {i j : Int} : (V.int i = V.int j) = (i = j) := by simp
theorem V_str {i j : Str} : (V.str i = V.str j) = (i = j) := by simp
theorem V_bl {i j : Bool} : (V.bl i = V.bl j) = (i = j) := by simp
end DS
namespace DS
open PySem L2
theorem hu64_of {A : Around} {k : Nat} (hr : Room k A) : A.units + 64 < cLine := hr.units
theorem log_lt {m : Int} {a b : Nat} (h0 : 0 < m) (h : m < 2 ^ a) (hab : a ≤ b) : m.natAbs.log2 < b := by
  have h1 : m.natAbs < 2 ^ a := by
    have e : ((m.natAbs : Nat) : Int) = m := Int.natAbs_of_nonneg (by omega)
    have h2 : ((m.natAbs : Nat) : Int) < ((2 ^ a : Nat) : Int) := by
      rw [e]
      exact_mod_cast h
    exact Int.ofNat_lt.mp h2
  have ha : 0 < a := by
    rcases Nat.eq_zero_or_pos a with z | z
    · subst z
      have : m < 1 := h
      omega
    · exact z
  exact Nat.lt_of_lt_of_le (PySem.Flt.log2_lt_of ha h1) hab
end DS
namespace DS
open PySem L2
theorem dp_ints {K : PySem.W.Frag} {H : Hp} : ∀ ns : List Int, DpAll K H (ns.map V.int) (ns.map PyData.int)
  | [] => .nil
  | n :: r => .cons (.int n) (dp_ints r)
theorem lay_ints : ∀ ns : List Int, PyData.canLayAll0 (ns.map PyData.int) = true
  | [] => rfl
  | n :: r => by
    show (PyData.canLay0 (.int n) && PyData.canLayAll0 (r.map PyData.int)) = true
    rw [lay_ints r]
    rfl
theorem deep_ints : ∀ ns : List Int, PyData.depthAll (ns.map PyData.int) = 0
  | [] => rfl
  | n :: r => by
    show max (PyData.depth (.int n)) (PyData.depthAll (r.map PyData.int)) = 0
    rw [deep_ints r]
    rfl
theorem shaped_ints (ns : List Int) : SeqAt.shaped (.list (ns.map PyData.int)) = true := by
  show (PyData.canLayAll0 (ns.map PyData.int) && decide (PyData.depthAll (ns.map PyData.int) + 1 ≤ 64)) = true
  rw [lay_ints, deep_ints]
  rfl
theorem w_neNil {K : PySem.W.Frag} {H : Hp} {Q : VK} {p q : Addr} {ns : List Int} (hp : H p = some (.lst (ns.map V.int))) (hq : H q = some (.lst [])) (h : Q (.bl (!ns.isEmpty)) H) : rNeD K (.ref p) (.ref q) H Q := by
  refine ⟨.list (ns.map PyData.int), .list [], .lst (.inl (.inl hp)) (dp_ints ns), .lst (.inl (.inl hq)) .nil, shaped_ints ns, rfl, ?_⟩
  cases ns <;> exact h
theorem at_ints {ns : List Int} {i : Int} (h0 : 0 ≤ i) (h1 : i < ns.length) : ∃ z, atI (ns.map V.int) i = some (.int z) := by
  obtain ⟨j, rfl⟩ := Int.eq_ofNat_of_zero_le h0
  have hj : j < ns.length := by omega
  refine ⟨ns[j], atI_nat ?_⟩
  rw [List.getElem?_map, List.getElem?_eq_getElem hj]
  rfl
theorem at_any {xs : List V} {i : Int} (h0 : 0 ≤ i) (h1 : i < xs.length) : ∃ v, atI xs i = some v ∧ v ∈ xs := by
  obtain ⟨j, rfl⟩ := Int.eq_ofNat_of_zero_le h0
  have hj : j < xs.length := by omega
  exact ⟨xs[j], atI_nat (List.getElem?_eq_getElem hj), List.getElem_mem hj⟩
theorem iteFF {A B : Prop} (h : B) : if (false = true) then A else B := iteF h
end DS
namespace DS
open PySem L2
section
variable {σ : St} {H : Hp} {Q : VK} {D : Ends} {tb : TS} {g : TG} {c : TT} {wi : TI} {tl : TA}
theorem w_for (h : wi σ H fun J H1 => ∃ W : Nat → Nat → St → Hp → Prop, (∃ m, W 0 m σ H1) ∧ ∀ i m σ H, W i m σ H →
  (J.stop i H ∧ D.nx σ H) ∨ (J.go i H ∧ ∃ N : St → Hp → Prop, (∀ σ' H', N σ' H' → ∃ m', m' < m ∧ W (i + 1) m' σ' H') ∧ ∀ x H', J.yld i H x H' → g x σ H' fun σ2 H2 => tb { D with nx := N, ct := N, bk := D.nx } σ2 H2)) : tFor wi g tb D σ H := h
theorem w_irng1 {R : It → Hp → Prop} (h : tl σ H fun vs H1 => ∃ j : Int, vs = [.int j] ∧ -(2 ^ 62) ≤ j ∧ j < 2 ^ 62 ∧ R (Itr 0 j.toNat) H1) : iRng1 tl σ H R := h
theorem w_irng2 {R : It → Hp → Prop} (h : tl σ H fun vs H1 => ∃ i j : Int, vs = [.int i, .int j] ∧ (-(2 ^ 62) ≤ i ∧ i < 2 ^ 62 ∧ -(2 ^ 62) ≤ j ∧ j < 2 ^ 62) ∧ R (Itr i (j - i).toNat) H1) : iRng2 tl σ H R := h
theorem w_rng1 {j : Int} {P : Int → Prop} (h0 : -(2 ^ 62) ≤ j) (h1 : j < 2 ^ 62) (h : P j) : ∃ j' : Int, [V.int j] = [.int j'] ∧ -(2 ^ 62) ≤ j' ∧ j' < 2 ^ 62 ∧ P j' := ⟨j, rfl, h0, h1, h⟩
theorem w_rng2 {i j : Int} {P : Int → Int → Prop} (h0 : -(2 ^ 62) ≤ i ∧ i < 2 ^ 62 ∧ -(2 ^ 62) ≤ j ∧ j < 2 ^ 62) (h : P i j) : ∃ i' j' : Int, [V.int i, V.int j] = [.int i', .int j'] ∧ (-(2 ^ 62) ≤ i' ∧ i' < 2 ^ 62 ∧ -(2 ^ 62) ≤ j' ∧ j' < 2 ^ 62) ∧ P i' j' := ⟨i, j, rfl, h0, h⟩
/-- a while whose test is evaluated by a rule of one's own at each turn -/
theorem w_while (h : ∃ W : Nat → St → Hp → Prop, (∃ m, W m σ H) ∧ ∀ m σ H, W m σ H → c σ H fun b H1 => if b = true then ∃ N : St → Hp → Prop, (∀ σ' H', N σ' H' → ∃ m', m' < m ∧ W m' σ' H') ∧ tb { D with nx := N, ct := N, bk := D.nx } σ H1 else D.nx σ H1) : tWhile c tb D σ H := h
end
theorem pow_wide {a : Int} {n m : Nat} (h : a.natAbs < 2 ^ n) (hm : n ≤ m) : a.natAbs < 2 ^ m := Nat.lt_of_lt_of_le h (Nat.pow_le_pow_right (by decide) hm)
theorem CMulA.w {i j : Int} {a b : Nat} (ha : i.natAbs < 2 ^ a) (hb : j.natAbs < 2 ^ b) (h : a + b ≤ 999998) : CMulA i j :=
  .inr (wide_mul (a := a + 1) (b := b + 1) (pow_wide ha (by omega)) (pow_wide hb (by omega)) (by omega) (by omega) (by omega))
theorem ten_lt (n : Nat) : ((10 : Int) ^ n).natAbs < 2 ^ (4 * n + 1) := by
  rw [Int.natAbs_pow]
  show 10 ^ n < _
  have h : 10 ^ n ≤ 16 ^ n := Nat.pow_le_pow_left (by decide) n
  have e : (2 : Nat) ^ (4 * n + 1) = 16 ^ n * 2 := by rw [Nat.pow_succ, Nat.pow_mul]
  have p : 0 < 16 ^ n := Nat.pow_pos (by decide)
  omega
end DS
namespace DS
open PySem L2
section
variable {σ : St} {H : Hp} {Q : VK} {D : Ends} {tk tv te : TE} {trs : List (TE × TE)} {tl th : TO}
theorem w_disp (h : ∀ Q' : VK, Q' = Q → ∀ p H1, H p = none → Same H H1 → H1 p = some (.dK []) → tPairs trs σ H1 fun ps H2 => H2 p = some (.dK []) ∧ ∃ kvs : List (Key × V), ps = kvs.map (fun kv => (kV kv.1, kv.2)) ∧ kvs.length ≤ 15 ∧ Q' (.ref p) (upd H2 p (.dK (mergeK [] kvs)))) : tDisp trs σ H Q :=
  fun p hp => h Q rfl p _ hp (same_upd hp) upd_same
theorem w_pnil {R : List (V × V) → Hp → Prop} (h : R [] H) : tPairs [] σ H R := h
theorem w_pcons {R : List (V × V) → Hp → Prop} (h : tk σ H fun x H1 => tv σ H1 fun y H2 => tPairs trs σ H2 fun ps H3 => R ((x, y) :: ps) H3) : tPairs ((tk, tv) :: trs) σ H R := h
theorem w_dend {Q' : VK} {p : Addr} {ps : List (V × V)} (kvs : List (Key × V)) (e : Q' = Q) (h0 : H p = some (.dK [])) (e2 : ps = kvs.map (fun kv => (kV kv.1, kv.2))) (l : kvs.length ≤ 15)
    (h : ∀ H', Keep H H' → (∀ H0, Same H0 H → H0 p = none → Same H0 H') → H' p = some (.dK (mergeK [] kvs)) → Q (.ref p) H') :
    H p = some (.dK []) ∧ ∃ kvs : List (Key × V), ps = kvs.map (fun kv => (kV kv.1, kv.2)) ∧ kvs.length ≤ 15 ∧ Q' (.ref p) (upd H p (.dK (mergeK [] kvs))) := by
  subst e
  refine ⟨h0, kvs, e2, l, h _ (keep_dict h0) (fun H0 s n b o z => ?_) upd_same⟩
  rw [upd_ne (ne_of_none z n)]
  exact s b o z
theorem w_sl {r : V → Option Int → Option Int → Hp → VK → Prop} (h : te σ H fun x H1 => tl σ H1 fun l H2 => th σ H2 fun u H3 => r x l u H3 Q) : tSl r te tl th σ H Q := h
theorem w_nopart {R : Option Int → Hp → Prop} (h : R none H) : tNoPart σ H R := h
end
theorem w_list {K : PySem.W.Frag} {H : Hp} {p : Addr} {xs : List V} {P : List V → Prop} (e : SqL K H p xs ∨ SqT K H p xs) (h : P xs) : ∃ q ys, [V.ref p] = [.ref q] ∧ (SqL K H q ys ∨ SqT K H q ys) ∧ P ys := ⟨p, xs, rfl, e, h⟩
end DS
namespace DS
open PySem L2
theorem w_part {σ : St} {H : Hp} {te : TE} {R : Option Int → Hp → Prop} (h : te σ H fun x H1 => ∃ i, x = .int i ∧ R (some i) H1) : tPart te σ H R := h
theorem w_i {n : Int} {P : Int → Prop} (h : P n) : ∃ i, V.int n = .int i ∧ P i := ⟨n, rfl, h⟩
theorem w_slL {K : PySem.W.Frag} {H : Hp} {Q : VK} {p : Addr} {xs : List V} {lo hi : Option Int} (e : SqL K H p xs) (h : ∀ q H', H q = none → Same H H' → H' q = some (.lst (cutV xs lo hi)) → Q (.ref q) H') : rSlL K (.ref p) lo hi H Q :=
  ⟨p, xs, rfl, e, fun q hq => h q _ hq (same_upd hq) upd_same⟩
theorem w_listof {K : PySem.W.Frag} {H : Hp} {Q : VK} {p : Addr} {xs : List V} (e : SqL K H p xs ∨ SqT K H p xs) (h : ∀ q H', H q = none → Same H H' → H' q = some (.lst xs) → Q (.ref q) H') : ∃ p' ys, [V.ref p] = [.ref p'] ∧ (SqL K H p' ys ∨ SqT K H p' ys) ∧ ∀ l, H l = none → Q (.ref l) (upd H l (.lst ys)) :=
  ⟨p, xs, rfl, e, fun q hq => h q _ hq (same_upd hq) upd_same⟩
theorem cut_ints (ns : List Int) (lo hi : Option Int) : ∃ ms : List Int, cutV (ns.map V.int) lo hi = ms.map V.int ∧ ms.length ≤ ns.length := by
  unfold cutV
  refine ⟨(ns.drop (HT.sIx ns.length 0 lo)).take (HT.sIx ns.length ns.length hi - HT.sIx ns.length 0 lo), ?_, ?_⟩
  · rw [List.length_map, List.map_take, List.map_drop]
  · rw [List.length_take, List.length_drop]
    omega
end DS
namespace DS
open PySem L2 PyProof.Rows
/-- o.f = .. as a target -/
def gFld (K : PySem.W.Frag) (to : TE) (f : Str) : TG := fun v σ H Q => to σ H fun x H1 => ∃ a C dx fs, x = .ref a ∧ H1 a = some (.ins C dx fs) ∧ Cls K C ∧ NoAttr K C f ∧ fs.length < 1000 ∧ Q σ (upd H1 a (.ins C dx (putF f v fs)))
theorem pg_attr {X : Cx} {o : Expr} {f : Str} {pos : Pos} {to : TE} (ho : PE X o to)
    (ha : ∀ v, assign (.Attribute o f pos) X.env v = (do
      let ov ← holding [v] (eval o X.env)
      standAt pos.atName
      holding [v, ov] (setAttr ov f v)
      release [v, ov] []) := by intro _; rfl) : PG X (.Attribute o f pos) (gFld X.K to f) := by
  refine ⟨fun pins s σ H v u Q I r h => ?_⟩
  rw [ha]
  refine wpAny_bind (wpAny_holding (thn (ho.run pins s σ H _ I h) fun ov s1 ⟨x, H1, I1, r1, a, C, dx, fs, ex, ea, c, n, l, q1⟩ => ?_))
  subst ex
  obtain rfl : ov = Value.ref a := r1
  refine wpAny_bind (wpAny_standAt (wpAny_bind (wpAny_holding (setattr_ok I1 ea c n l r fun s3 I3 => ?_))))
  exact wpAny_release ⟨σ, _, I3, q1⟩
theorem w_gfld {K : PySem.W.Frag} {to : TE} {f : Str} {v : V} {σ : L2.St} {H : Hp} {Q : L2.St → Hp → Prop} (h : to σ H fun x H1 => ∃ a C dx fs, x = .ref a ∧ H1 a = some (.ins C dx fs) ∧ Cls K C ∧ NoAttr K C f ∧ fs.length < 1000 ∧ Q σ (upd H1 a (.ins C dx (putF f v fs)))) : gFld K to f v σ H Q := h
theorem w_sfld {K : PySem.W.Frag} {ta tv : TE} {f : Str} {D : Ends} {σ : L2.St} {H : Hp} (h : tv σ H fun y H1 => ta σ H1 fun x H2 => ∃ a C dx fs, x = .ref a ∧ H2 a = some (.ins C dx fs) ∧ Cls K C ∧ NoAttr K C f ∧ fs.length < 1000 ∧ D.nx σ (upd H2 a (.ins C dx (putF f y fs)))) : sFld K ta tv f D σ H := h
theorem w_isiB {K : PySem.W.Frag} {H : Hp} {x : V} {a b : String} {r : Bool} {P : Bool → Prop} (ty : TyX K H x (.type a)) (k : kitB a b = some r) (h : P r) :
    ∃ (x' c : V) (t u : Value) (b' : Bool), [x, V.ty b] = [x', c] ∧ ClsV c u ∧ TyX K H x' t ∧ PySem.W.kitOne K t u = some b' ∧ P b' := ⟨x, .ty b, _, _, r, rfl, .ty b, ty, kit_ty k, h⟩
theorem w_isi {K : PySem.W.Frag} {H : Hp} {x c : V} {t u : Value} {r : Bool} {P : Bool → Prop} (cl : ClsV c u) (ty : TyX K H x t) (k : PySem.W.kitOne K t u = some r) (h : P r) :
    ∃ (x' c' : V) (t u : Value) (b' : Bool), [x, c] = [x', c'] ∧ ClsV c' u ∧ TyX K H x' t ∧ PySem.W.kitOne K t u = some b' ∧ P b' := ⟨x, c, t, u, r, rfl, cl, ty, k, h⟩
theorem w_risi {K : PySem.W.Frag} {H : Hp} {Q : VK} {xs : List V} (h : ∃ (x c : V) (t u : Value) (b : Bool), xs = [x, c] ∧ ClsV c u ∧ TyX K H x t ∧ PySem.W.kitOne K t u = some b ∧ Q (.bl b) H) : rIsi K xs H Q := h
/-- is a value of the kind T -/
def IsI (K : PySem.W.Frag) (H : Hp) (v : V) (T : String) (r : Bool) : Prop := ∃ t, TyX K H v t ∧ PySem.W.kitOne K t (.type T) = some r
theorem w_isI {K : PySem.W.Frag} {H : Hp} {x : V} {b : String} {r : Bool} {P : Bool → Prop} (i : IsI K H x b r) (h : P r) :
    ∃ (x' c : V) (t u : Value) (b' : Bool), [x, V.ty b] = [x', c] ∧ ClsV c u ∧ TyX K H x' t ∧ PySem.W.kitOne K t u = some b' ∧ P b' := by
  obtain ⟨t, ty, k⟩ := i
  exact ⟨x, .ty b, t, _, r, rfl, .ty b, ty, k, h⟩
def IntLike (K : PySem.W.Frag) (H : Hp) (v : V) (b : Bool) : Prop := ∃ r1 r2, IsI K H v "int" r1 ∧ IsI K H v "bool" r2 ∧ b = (r1 && !r2)
theorem intLike_int {K : PySem.W.Frag} {H : Hp} {n : Int} : IntLike K H (.int n) true :=
  ⟨true, false, ⟨_, .base (.int n), kit_ty (by decide +kernel)⟩, ⟨_, .base (.int n), kit_ty (by decide +kernel)⟩, rfl⟩
end DS
namespace DS
open PySem L2
/-- a worth's own form -/
def nrm : Int → Nat → Int × Nat
  | u, 0 => (u, 0)
  | u, s + 1 => if u % 10 = 0 then nrm (u / 10) s else (u, s + 1)
theorem nrm_zero : ∀ s : Nat, nrm 0 s = (0, 0)
  | 0 => rfl
  | s + 1 => by
    show (if (0 : Int) % 10 = 0 then nrm (0 / 10) s else (0, s + 1)) = (0, 0)
    rw [if_pos (by decide)]
    exact nrm_zero s
theorem nrm_pos {u : Int} {s : Nat} (h : u % 10 = 0) : nrm u (s + 1) = nrm (u / 10) s := by
  show (if u % 10 = 0 then nrm (u / 10) s else (u, s + 1)) = _
  rw [if_pos h]
theorem nrm_neg {u : Int} {s : Nat} (h : ¬ u % 10 = 0) : nrm u s = (u, s) := by
  cases s with
  | zero => rfl
  | succ s =>
    show (if u % 10 = 0 then nrm (u / 10) s else (u, s + 1)) = _
    rw [if_neg h]
def wf (u : Int) (s : Nat) : List (Str × V) := [("units", .int (nrm u s).1), ("scale", .int ((nrm u s).2 : Int))]
theorem wf_units (u : Int) (s : Nat) : (wf u s).lookup ("units" : Str) = some (.int (nrm u s).1) := by
  unfold wf
  simp
theorem us_ne : ¬ (("scale" : Str) = "units") := by decide +kernel
theorem su_ne : ¬ (("units" : Str) = "scale") := by decide +kernel
theorem wf_scale (u : Int) (s : Nat) : (wf u s).lookup ("scale" : Str) = some (.int ((nrm u s).2 : Int)) := by
  unfold wf
  rw [List.lookup_cons, beq_eq_false_iff_ne.mpr us_ne]
  simp
theorem wf_put (a b : Int) : putF "scale" (.int b) (putF "units" (.int a) []) = ([("units", .int a), ("scale", .int b)] : List (Str × V)) := by
  show (if ("units" : Str) = "scale" then [(("units" : Str), V.int b)] else (("units" : Str), V.int a) :: putF "scale" (V.int b) []) = _
  rw [if_neg su_ne]
  rfl
def WAt (C : Addr) (H : Hp) (p : Addr) (u : Int) (s : Nat) : Prop := ∃ dx, H p = some (.ins C dx (wf u s))
theorem WAt.same {C : Addr} {H H' : Hp} {p : Addr} {u : Int} {s : Nat} (e : Same H H') (h : WAt C H p u s) : WAt C H' p u s := by
  obtain ⟨dx, h⟩ := h
  exact ⟨dx, e _ _ h⟩
theorem WAt.keep {C : Addr} {H H' : Hp} {p : Addr} {u : Int} {s : Nat} (e : Keep H H') (h : WAt C H p u s) : WAt C H' p u s := by
  obtain ⟨dx, h⟩ := h
  exact ⟨dx, e _ _ h rfl⟩
/-- __init__ of a worth -/
def sp_winit (C : Addr) : Sp := fun vs H Q _ => ∃ (p dx : Addr) (u : Int) (s : Nat), vs = [.ref p, .int u, .int s] ∧ H p = some (.ins C dx []) ∧
  ∀ H', H' p = some (.ins C dx (wf u s)) → (∀ b o, b ≠ p → H b = some o → H' b = some o) → Q .non H'
theorem make_worth {C : Addr} {H : Hp} {Q Q' : VK} {E : XK} {u : Int} {s : Nat} (e : Q' = Q) (h : ∀ x H', H x = none → Same H H' → WAt C H' x u s → Q (.ref x) H') :
    ∀ x dx, H x = none → H dx = none → dx ≠ x → sp_winit C (.ref x :: ([.int u, .int (s : Int)] ++ [])) (upd (upd H dx (.own x)) x (.ins C dx [])) (fun v H2 => v = .non ∧ Q' (.ref x) H2) E := by
  subst e
  intro x dx nx nd ne
  refine ⟨x, dx, u, s, rfl, upd_same, fun H' e k => ⟨rfl, h x H' nx (fun b o z => ?_) ⟨dx, e⟩⟩⟩
  have n1 : b ≠ x := ne_of_none z nx
  refine k b o n1 ?_
  rw [upd_ne n1, upd_ne (ne_of_none z nd)]
  exact z
theorem w_flds {K : PySem.W.Frag} {H : Hp} {p C dx : Addr} {fs : List (Str × V)} {f : Str} {v : V} {P : V → Prop} (e : H p = some (.ins C dx fs)) (cl : Cls K C) (n : NoAttr K C f) (l : fs.lookup f = some v) (h : P v) :
    ∃ a C dx fs v, V.ref p = .ref a ∧ H a = some (.ins C dx fs) ∧ Cls K C ∧ NoAttr K C f ∧ fs.lookup f = some v ∧ P v := ⟨p, C, dx, fs, v, rfl, e, cl, n, l, h⟩
end DS
namespace DS
open PySem L2 PyProof.Rows
/-- d.get(y, z), d a written dict -/
def tKGet2 (K : PySem.W.Frag) (d : Addr) (td ty tx : TE) : TE := fun σ H Q => td σ H fun x H1 => x = .ref d ∧ ty σ H1 fun y H2 => tx σ H2 fun z H3 => ∃ (k : Str) (r : Option Value), y = .str k ∧ PySem.W.nsIn K d k = some r ∧
  ((r = none ∧ Q z H3) ∨ ∃ u0 v0, r = some u0 ∧ RelV v0 u0 ∧ Q v0 H3)
theorem pe_kget2 {X : Cx} {d : Addr} {es : Array DictEntry} {n : Nat} {o e f : Expr} {apos cpos : Pos} {td ty tx : TE} (D : KDict X.K X.w d es n) (ho : PE X o td) (he : PE X e ty) (hf : PE X f tx) (m : M2 X o "get" apos e f cpos) :
    PE X (.Call (.Attribute o "get" apos) [e, f] [] cpos) (tKGet2 X.K d td ty tx) := by
  refine ⟨fun pins s σ H Q I h => ?_⟩
  refine wpAny_Call_method m.base m.few m.line PySem.F.plainAttrs_dict PySem.F.slot_dict_get PySem.F.type_dict_get (thn (ho.run pins s σ H _ I h) fun u s1 ⟨x, H1, I1, rx, ex, q1⟩ => ?_)
  subst ex
  obtain rfl : u = Value.ref d := rx
  refine ⟨kd_type D I1, fun b q => ?_, ?_⟩
  · cases q
    exact ⟨_, I1.kIn _ _ D.at_, rfl⟩
  rw [m.trees]
  refine Calls.callWith_builtin rfl (Calls.evalArgs_plain (Calls.spliced_cons (thn (he.run pins s1 σ H1 _ I1 q1) fun iv s2 ⟨y, H2, I2, ry, q2⟩ =>
    Calls.spliced_cons (thn (hf.run pins s2 σ H2 _ I2 q2) fun fv s3 ⟨z, H3, I3, rz, k, r, ey, g, q3⟩ => Calls.spliced_nil ?_))))
  subst ey
  obtain ⟨t, rfl⟩ := (show ∃ t, iv = Value.str k t from ry)
  have hm := PySem.W.mapOf_K (prog := X.prog) (w := X.w) I3.kIn D.at_ D.lit
  refine call_meetsIn PySem.F.slot_dict_get hm.typeIs PySem.F.entry_dict_get (PySem.F.args_dict_get_3 _ _ _) (meets_dict_get_default (strKind X.prog X.w) d (PySem.strKind_is X.prog X.w k t) D.low fv) ⟨_, hm, ?_⟩
  rw [PySem.W.find_K D.at_ g]
  rcases q3 with ⟨er, q3⟩ | ⟨u0, v0, er, r0, q3⟩
  · subst er
    exact ⟨z, H3, I3.tok _, rz, q3⟩
  · subst er
    exact ⟨v0, H3, I3.tok _, r0, q3⟩
end DS
namespace DS
open PySem L2 PyProof.Rows
/-- -x by the own __neg__ -/
def rNegOwn (C : Addr) (sp : Sp) (E : XK) : V → Hp → VK → Prop := fun x H Q => ∃ a dx fs, x = .ref a ∧ H a = some (.ins C dx fs) ∧ sp [.ref a] H Q E
theorem un_negOwn {X : Cx} {CX : CXT} {k : Nat} {f C : Addr} {fd : FuncData} {ps : List Str} {sp : Sp} {E : XK} (hm : Meth X.K C "__neg__" f) (F : FnOk X.prog X.w X.K X.mg X.base CX k f fd ps sp) (hr : Room k X.A) (hb : Binds X.K fd ps []) (hx : Passes CX X E) :
    UnR X (unaryOp .USub) (rNegOwn C sp E) := by
  intro pins s σ H x u Q I rx h
  obtain ⟨a, dx, fs, rfl, ea, q⟩ := h
  obtain rfl : u = Value.ref a := rx
  obtain ⟨mA, O, _⟩ := ins_get I.hok ea
  obtain ⟨od, J, _⟩ := O.look
  unfold unaryOp
  refine wpAny_holding ?_
  exact wpAny_bind (PySem.W.special_fn I.kIn J hm.at_ (beq_iff_eq.mp hm.fn) (wpAny_mono (run_fn (us := [.ref a]) (vs := [.ref a]) (dvs := []) (ds := []) F hr hb .nil hx I (.cons rfl .nil) q) (fun _ _ z => wpAny_pure z) fun _ _ z => z))
end DS
namespace DS
open PySem L2
/-- a loop over a tuple turn by turn -/
def unrollT (K : PySem.W.Frag) (a : Addr) (all : List V) (g : TG) (tb : TS) (D : Ends) : List V → St → Hp → Prop
  | [], σ, H => D.nx σ H
  | x :: xs, σ, H => g x σ H fun σ2 H2 => tb { D with nx := fun σ' H' => SqT K H' a all ∧ unrollT K a all g tb D xs σ' H', ct := fun σ' H' => SqT K H' a all ∧ unrollT K a all g tb D xs σ' H', bk := D.nx } σ2 H2
def unrollL (K : PySem.W.Frag) (a : Addr) (all : List V) (g : TG) (tb : TS) (D : Ends) : List V → St → Hp → Prop
  | [], σ, H => D.nx σ H
  | x :: xs, σ, H => g x σ H fun σ2 H2 => tb { D with nx := fun σ' H' => SqL K H' a all ∧ unrollL K a all g tb D xs σ' H', ct := fun σ' H' => SqL K H' a all ∧ unrollL K a all g tb D xs σ' H', bk := D.nx } σ2 H2
section
variable {K : PySem.W.Frag} {a : Addr} {all : List V} {g : TG} {tb : TS} {D : Ends} {σ : St} {H : Hp}
theorem w_unT0 (h : D.nx σ H) : unrollT K a all g tb D [] σ H := h
theorem w_unT {x : V} {xs : List V} (h : g x σ H fun σ2 H2 => tb { D with nx := fun σ' H' => SqT K H' a all ∧ unrollT K a all g tb D xs σ' H', ct := fun σ' H' => SqT K H' a all ∧ unrollT K a all g tb D xs σ' H', bk := D.nx } σ2 H2) : unrollT K a all g tb D (x :: xs) σ H := h
theorem w_unL0 (h : D.nx σ H) : unrollL K a all g tb D [] σ H := h
theorem w_unL {x : V} {xs : List V} (h : g x σ H fun σ2 H2 => tb { D with nx := fun σ' H' => SqL K H' a all ∧ unrollL K a all g tb D xs σ' H', ct := fun σ' H' => SqL K H' a all ∧ unrollL K a all g tb D xs σ' H', bk := D.nx } σ2 H2) : unrollL K a all g tb D (x :: xs) σ H := h
theorem for_unT (h : SqT K H a all) (hu : unrollT K a all g tb D all σ H) :
    ∃ W : Nat → Nat → St → Hp → Prop, (∃ m, W 0 m σ H) ∧ ∀ i m σ H, W i m σ H →
      ((Itt K a).stop i H ∧ D.nx σ H) ∨ ((Itt K a).go i H ∧ ∃ N : St → Hp → Prop, (∀ σ' H', N σ' H' → ∃ m', m' < m ∧ W (i + 1) m' σ' H') ∧ ∀ x H', (Itt K a).yld i H x H' → g x σ H' fun σ2 H2 => tb { D with nx := N, ct := N, bk := D.nx } σ2 H2) := by
  refine ⟨fun i m σ H => m + i = all.length ∧ SqT K H a all ∧ unrollT K a all g tb D (all.drop i) σ H, ⟨all.length, rfl, h, hu⟩, ?_⟩
  rintro i m σ H ⟨hm, hs, hu⟩
  by_cases hi : i < all.length
  · rw [List.drop_eq_getElem_cons hi] at hu
    refine .inr ⟨⟨all, all[i], hs, by simp [hi]⟩, fun σ' H' => SqT K H' a all ∧ unrollT K a all g tb D (all.drop (i + 1)) σ' H', fun σ' H' q => ⟨m - 1, by omega, by omega, q.1, q.2⟩, fun x H' y => ?_⟩
    obtain ⟨e, y⟩ := y
    subst e
    have ex : all[i] = x := by
      have := y all hs
      rw [List.getElem?_eq_getElem hi] at this
      exact Option.some.inj this
    rw [← ex]
    exact hu
  · have e : all.drop i = [] := List.drop_eq_nil_of_le (by omega)
    rw [e] at hu
    exact .inl ⟨⟨all, hs, by omega⟩, hu⟩
theorem for_unL (h : SqL K H a all) (hu : unrollL K a all g tb D all σ H) :
    ∃ W : Nat → Nat → St → Hp → Prop, (∃ m, W 0 m σ H) ∧ ∀ i m σ H, W i m σ H →
      ((Itl K a).stop i H ∧ D.nx σ H) ∨ ((Itl K a).go i H ∧ ∃ N : St → Hp → Prop, (∀ σ' H', N σ' H' → ∃ m', m' < m ∧ W (i + 1) m' σ' H') ∧ ∀ x H', (Itl K a).yld i H x H' → g x σ H' fun σ2 H2 => tb { D with nx := N, ct := N, bk := D.nx } σ2 H2) := by
  refine ⟨fun i m σ H => m + i = all.length ∧ SqL K H a all ∧ unrollL K a all g tb D (all.drop i) σ H, ⟨all.length, rfl, h, hu⟩, ?_⟩
  rintro i m σ H ⟨hm, hs, hu⟩
  by_cases hi : i < all.length
  · rw [List.drop_eq_getElem_cons hi] at hu
    refine .inr ⟨⟨all, all[i], hs, by simp [hi]⟩, fun σ' H' => SqL K H' a all ∧ unrollL K a all g tb D (all.drop (i + 1)) σ' H', fun σ' H' q => ⟨m - 1, by omega, by omega, q.1, q.2⟩, fun x H' y => ?_⟩
    obtain ⟨e, y⟩ := y
    subst e
    have ex : all[i] = x := by
      have := y all hs
      rw [List.getElem?_eq_getElem hi] at this
      exact Option.some.inj this
    rw [← ex]
    exact hu
  · have e : all.drop i = [] := List.drop_eq_nil_of_le (by omega)
    rw [e] at hu
    exact .inl ⟨⟨all, hs, by omega⟩, hu⟩
theorem w_iTup {tl : TE} {R : It → Hp → Prop} (h : tl σ H fun x H1 => ∃ a, x = .ref a ∧ (∃ xs, SqT K H1 a xs) ∧ R (Itt K a) H1) : iTup K tl σ H R := h
theorem w_iList {tl : TE} {R : It → Hp → Prop} (h : tl σ H fun x H1 => ∃ a, x = .ref a ∧ (∃ xs, SqL K H1 a xs) ∧ R (Itl K a) H1) : iList K tl σ H R := h
end
theorem bits_le {i : Int} {n : Nat} (h : i.natAbs < 2 ^ n) (hn : 0 < n) : Builtin.Int.intBits i ≤ n := by
  unfold Builtin.Int.intBits
  have := PySem.Flt.log2_lt_of hn h
  split <;> omega
theorem divp_of {i j : Int} (hj : 0 < j) (h : i.natAbs < 2 ^ 4000) : CDivP i j := divp_ok hj (Nat.le_trans (bits_le h (by decide)) (Nat.le_add_left _ _))
theorem in_strs {x : Str} {l : List Str} (h : x ∈ l) : inV (.str x) (l.map V.str) = true := by
  unfold inV
  rw [List.any_eq_true]
  exact ⟨.str x, List.mem_map.mpr ⟨x, h, rfl⟩, by simp [eqV]⟩
theorem flat_strs (l : List Str) : (l.map V.str).all flatV = true := by
  rw [List.all_eq_true]
  intro v hv
  obtain ⟨x, _, rfl⟩ := List.mem_map.mp hv
  rfl
end DS
namespace DS
open PySem L2
theorem nrm_idem : ∀ (s : Nat) (u : Int), nrm (nrm u s).1 (nrm u s).2 = nrm u s
  | 0, u => rfl
  | s + 1, u => by
    by_cases h : u % 10 = 0
    · rw [nrm_pos h]
      exact nrm_idem s (u / 10)
    · rw [nrm_neg h]
      exact nrm_neg h
theorem nrm_minus : ∀ (s : Nat) (u : Int), nrm (-u) s = (-(nrm u s).1, (nrm u s).2)
  | 0, u => rfl
  | s + 1, u => by
    by_cases h : u % 10 = 0
    · have h2 : (-u) % 10 = 0 := by omega
      have h3 : (-u) / 10 = -(u / 10) := by omega
      rw [nrm_pos h, nrm_pos h2, h3]
      exact nrm_minus s (u / 10)
    · have h2 : ¬ (-u) % 10 = 0 := by omega
      rw [nrm_neg h, nrm_neg h2]
theorem nrm_le : ∀ (s : Nat) (u : Int), (nrm u s).2 ≤ s
  | 0, u => Nat.le_refl _
  | s + 1, u => by
    by_cases h : u % 10 = 0
    · rw [nrm_pos h]
      exact Nat.le_succ_of_le (nrm_le s (u / 10))
    · rw [nrm_neg h]
      exact Nat.le_refl _
theorem nrm_val : ∀ (s : Nat) (u : Int), u = (nrm u s).1 * 10 ^ (s - (nrm u s).2)
  | 0, u => by
    show u = u * 10 ^ (0 - 0)
    rw [Nat.sub_self, Int.pow_zero, Int.mul_one]
  | s + 1, u => by
    by_cases h : u % 10 = 0
    · rw [nrm_pos h]
      have l := nrm_le s (u / 10)
      have e := nrm_val s (u / 10)
      rw [Nat.succ_sub l, Int.pow_succ, ← Int.mul_assoc, ← e]
      omega
    · rw [nrm_neg h, Nat.sub_self, Int.pow_zero, Int.mul_one]
theorem nrm_last : ∀ (s : Nat) (u : Int), (nrm u s).2 = 0 ∨ ¬ (nrm u s).1 % 10 = 0
  | 0, u => .inl rfl
  | s + 1, u => by
    by_cases h : u % 10 = 0
    · rw [nrm_pos h]
      exact nrm_last s (u / 10)
    · rw [nrm_neg h]
      exact .inr h
theorem nrm_abs : ∀ (s : Nat) (u : Int), (nrm u s).1.natAbs ≤ u.natAbs
  | 0, u => Nat.le_refl _
  | s + 1, u => by
    by_cases h : u % 10 = 0
    · rw [nrm_pos h]
      have := nrm_abs s (u / 10)
      omega
    · rw [nrm_neg h]
      exact Nat.le_refl _
theorem nrm_mul : ∀ (k s : Nat) (u : Int), nrm (u * 10 ^ k) (s + k) = nrm u s
  | 0, s, u => by rw [Int.pow_zero, Int.mul_one]; rfl
  | k + 1, s, u => by
    have e : u * 10 ^ (k + 1) = u * 10 ^ k * 10 := by rw [Int.pow_succ, Int.mul_assoc]
    rw [e]
    have h : (u * 10 ^ k * 10) % 10 = 0 := by omega
    have h2 : (u * 10 ^ k * 10) / 10 = u * 10 ^ k := by omega
    show nrm (u * 10 ^ k * 10) ((s + k) + 1) = nrm u s
    rw [nrm_pos h, h2]
    exact nrm_mul k s u
theorem wf_nrm (u : Int) (s : Nat) : wf (nrm u s).1 (nrm u s).2 = wf u s := by unfold wf; rw [nrm_idem]
theorem wf_minus (u : Int) (s : Nat) : wf (-(nrm u s).1) (nrm u s).2 = wf (-u) s := by unfold wf; rw [nrm_minus, nrm_minus, nrm_idem]
theorem w_eqT2 {K : PySem.W.Frag} {H : Hp} {Q : VK} {p q : Addr} {a b c d : Int} (hp : H p = some (.tup [.int a, .int b])) (hq : H q = some (.tup [.int c, .int d])) (h : Q (.bl (a == c && (b == d && true))) H) : rEqD K (.ref p) (.ref q) H Q :=
  ⟨.tuple [.int a, .int b], .tuple [.int c, .int d], .tup (.inl (.inl hp)) (.cons (.int _) (.cons (.int _) .nil)), .tup (.inl (.inl hq)) (.cons (.int _) (.cons (.int _) .nil)), rfl, rfl, h⟩
def R_W (C : Addr) (a b : Addr) (H : Hp) : Prop := ∃ u s u' s', WAt C H a u s ∧ WAt C H b u' s' ∧ nrm u s = nrm u' s'
theorem R_W.mon {C : Addr} : ∀ a b H H', Ext H H' → R_W C a b H → R_W C a b H' := fun a b H H' e ⟨u, s, u', s', h1, h2, h3⟩ => ⟨u, s, u', s', h1.same e, h2.same e, h3⟩
end DS
namespace DS
open PySem L2
theorem wf_no (u : Int) (s : Nat) {m : Str} (h1 : ¬ m = "units") (h2 : ¬ m = "scale") : (wf u s).lookup m = none := by
  unfold wf
  rw [List.lookup_cons, beq_eq_false_iff_ne.mpr h1, List.lookup_cons, beq_eq_false_iff_ne.mpr h2]
  rfl
end DS
namespace DS
open PySem L2
theorem inV_strs (x : Str) : ∀ l : List Str, inV (.str x) (l.map V.str) = decide (x ∈ l)
  | [] => rfl
  | y :: r => by
    show (eqV (.str y) (.str x) || inV (.str x) (r.map V.str)) = decide (x ∈ y :: r)
    rw [inV_strs x r]
    show ((y == x) || decide (x ∈ r)) = decide (x ∈ y :: r)
    by_cases h : x = y
    · subst h
      simp
    · have h2 : ¬ y = x := fun e => h e.symm
      simp [h, h2]
theorem w_inL {K : PySem.W.Frag} {H : Hp} {Q : VK} {p : Addr} {x : Str} {l : List Str} (e : H p = some (.lst (l.map V.str))) (h : Q (.bl (decide (x ∈ l))) H) : rIn K false (.str x) (.ref p) H Q := by
  refine ⟨p, l.map V.str, rfl, .inl (.inl (.inl e)), rfl, flat_strs l, ?_⟩
  rw [if_neg Bool.false_ne_true, inV_strs]
  exact h
theorem ediv_abs (n d : Int) : (n / d).natAbs ≤ n.natAbs := Int.natAbs_ediv_le_natAbs n d
end DS
namespace DS
open PySem L2
theorem w_lc {wi : TI} {g : TG} {tt : TT} {te : TE} {vs : List Nat} {σ : St} {H : Hp} {Q : VK} (h : wi σ H fun J H1 => ∀ D, H1 D = none → ∃ W : Nat → Nat → Hp → Prop, (∃ m, W 0 m (upd H1 D (.lst []))) ∧ ∀ i m H, W i m H →
  (J.stop i H ∧ Q (.ref D) H) ∨ (J.go i H ∧ ∃ Nx : Hp → Prop, (∀ H', Nx H' → ∃ m', m' < m ∧ W (i + 1) m' H') ∧ ∀ x H', J.yld i H x H' → g x (wipe σ vs) H' fun σ2 H2 => wipe σ2 vs = wipe σ vs ∧ tt σ2 H2 fun b H3 =>
    if b = true then te σ2 H3 fun y H4 => ∃ acc, H4 D = some (.lst acc) ∧ acc.length < sizeLine ∧ Nx (upd H4 D (.lst (acc ++ [y]))) else Nx H3)) : tLc wi g tt te vs σ H Q := h
theorem w_yes {σ : St} {H : Hp} {R : Bool → Hp → Prop} (h : R true H) : tYes σ H R := h
end DS
section
open PySem PySem.W PyProof.Rows
namespace KX
structure Pre (H : Prop) where
  p : Program
  q : Program
  loose : List PySem.Str
  Xt : Shared → Bool
  K : Params → Frag
  as : List Addr
  M : Nat
  Hc : Prop
  go : (∀ (w : World) (os : OsState), (HeadRun.endF (HeadRun.stepQ (HeadRun.denQ HeadRun.tabQ) p w) M p w os).map (fun s => (HeadRun.looksF p (boot_heap w.params) s.abs, HeadRun.seenQ q loose (PySem.importedModules p.main.body) Xt s.abs, as.map (HeadRun.getT s))) = some (true, openGood q loose, (K w.params).map fun x => some x.2)) → Hc → H
/-- a fragment and the tables of the code objects that make lambdas -/
def kts (k : Params → Frag) (ts : List Addr) : Params → Frag := fun P => k P ++ ts.map fun p => (p, tabObj #[])
@[reducible] def keepH {P : Prop} (_ : P) (H : Hook) : Hook := H
/-- a list's first and its rest, twice under names of their own, so that the kernel does not set side against side before it has reckoned both -/
def hdL {a : Type} : List a → List a
  | [] => []
  | x :: _ => [x]
def hdR {a : Type} : List a → List a
  | [] => []
  | x :: _ => [x]
def tlL {a : Type} : List a → List a
  | [] => []
  | _ :: r => r
def tlR {a : Type} : List a → List a
  | [] => []
  | _ :: r => r
section
variable {s a b c d e f g h i : Type} {m : Option s}
theorem fst_of {F : s → a} {G : s → b} {x : a} {y : b} (z : m.map (fun u => (F u, G u)) = some (x, y)) : m.map F = some x := by
  cases m with
  | none => cases z
  | some u => exact congrArg some (congrArg Prod.fst (Option.some.inj z))
theorem snd_of {F : s → a} {G : s → b} {x : a} {y : b} (z : m.map (fun u => (F u, G u)) = some (x, y)) : m.map G = some y := by
  cases m with
  | none => cases z
  | some u => exact congrArg some (congrArg Prod.snd (Option.some.inj z))
theorem both {F : s → a} {G : s → b} {x : a} {y : b} (z1 : m.map F = some x) (z2 : m.map G = some y) : m.map (fun u => (F u, G u)) = some (x, y) := by
  cases m with
  | none => cases z1
  | some u => exact congrArg some (Prod.ext (Option.some.inj z1) (Option.some.inj z2))
theorem pair {F : s → a × b} {x : a} {y : b} (z1 : m.map (fun u => (F u).1) = some x) (z2 : m.map (fun u => (F u).2) = some y) : m.map F = some (x, y) := by
  cases m with
  | none => cases z1
  | some u => exact congrArg some (Prod.ext (Option.some.inj z1) (Option.some.inj z2))
theorem cons_of {F : s → List a} {y : List a} (z1 : m.map (fun u => hdL (F u)) = some (hdR y)) (z2 : m.map (fun u => tlL (F u)) = some (tlR y)) : m.map F = some y := by
  cases m with
  | none => cases z1
  | some u =>
    have z1 : hdL (F u) = hdR y := Option.some.inj z1
    have z2 : tlL (F u) = tlR y := Option.some.inj z2
    show some (F u) = some y
    revert z1 z2
    generalize F u = l
    intro z1 z2
    cases l with
    | nil => cases y with
      | nil => rfl
      | cons _ _ => cases z1
    | cons _ _ => cases y with
      | nil => cases z1
      | cons _ _ =>
        cases z1
        cases z2
        rfl
theorem seen_of {F : s → Seen} {df : List (Option FnShape)} {o go bo nl : Bool} {nm : List (Option Value × Option Value)} {n : Nat} (z1 : m.map (fun u => (F u).defs) = some df) (z2 : m.map (fun u => (F u).ownsOk) = some o) (z3 : m.map (fun u => ((F u).names, (F u).globalsOk, (F u).builtinsOk, (F u).noLimit, (F u).gens)) = some (nm, go, bo, nl, n)) : m.map F = some ⟨df, o, nm, go, bo, nl, n⟩ := by
  cases m with
  | none => cases z1
  | some u =>
    have z1 : (F u).defs = df := Option.some.inj z1
    have z2 : (F u).ownsOk = o := Option.some.inj z2
    have z3 : ((F u).names, (F u).globalsOk, (F u).builtinsOk, (F u).noLimit, (F u).gens) = (nm, go, bo, nl, n) := Option.some.inj z3
    show some (F u) = _
    revert z1 z2 z3
    generalize F u = l
    intro z1 z2 z3
    obtain ⟨a1, a2, a3, a4, a5, a6, a7⟩ := l
    cases z1
    cases z2
    cases z3
    rfl
end
end KX
section
set_option hygiene false in
local macro_rules | `(tactic| kernel_rfl) => `(tactic| (first | (with_reducible exact hl _ _)))
set_option hygiene false in
local macro_rules | `(tactic| o_head $h:term) => `(tactic| o_headL (KX.keepH hk $h))
set_option hygiene false in
local macro_rules | `(tactic| o_head ($_f $k $a $_e $ts)) => `(tactic| o_headL (KX.keepH hk (kHook (KX.kts $k $ts) ($a ++ $ts) (fun _ => by kernel_rfl))))
set_option maxHeartbeats 0 in
noncomputable def KX.pre : KX.Pre PySem.Challenge.rw_dealtsums_k25_items_sent_below_a_length.Holds := by
  apply KX.Pre.mk
  intro hl hk
  w_on; o_law; k_head; (case hw => w_witness2)
  k_fill
  delta KX.keepH
  exact hk
end
set_option maxHeartbeats 0 in
theorem KX.g0 : ∀ (w : World) (os : OsState), (HeadRun.endF (HeadRun.stepQ (HeadRun.denQ HeadRun.tabQ) KX.pre.p w) KX.pre.M KX.pre.p w os).map (fun s => (HeadRun.looksF KX.pre.p (boot_heap w.params) s.abs, KX.pre.as.map (HeadRun.getT s), (HeadRun.seenQ KX.pre.q KX.pre.loose (PySem.importedModules KX.pre.p.main.body) KX.pre.Xt s.abs).2.1, ((HeadRun.seenQ KX.pre.q KX.pre.loose (PySem.importedModules KX.pre.p.main.body) KX.pre.Xt s.abs).1.names, (HeadRun.seenQ KX.pre.q KX.pre.loose (PySem.importedModules KX.pre.p.main.body) KX.pre.Xt s.abs).1.globalsOk, (HeadRun.seenQ KX.pre.q KX.pre.loose (PySem.importedModules KX.pre.p.main.body) KX.pre.Xt s.abs).1.builtinsOk, (HeadRun.seenQ KX.pre.q KX.pre.loose (PySem.importedModules KX.pre.p.main.body) KX.pre.Xt s.abs).1.noLimit, (HeadRun.seenQ KX.pre.q KX.pre.loose (PySem.importedModules KX.pre.p.main.body) KX.pre.Xt s.abs).1.gens))) = some ((true, (KX.pre.K w.params).map fun x => some x.2, bltViewBooted, ([], true, true, true, 0))) := by
  intro w os
  kernel_rfl
set_option maxHeartbeats 0 in
theorem KX.g1 : ∀ (w : World) (os : OsState), (HeadRun.endF (HeadRun.stepQ (HeadRun.denQ HeadRun.tabQ) KX.pre.p w) KX.pre.M KX.pre.p w os).map (fun s => (HeadRun.seenQ KX.pre.q KX.pre.loose (PySem.importedModules KX.pre.p.main.body) KX.pre.Xt s.abs).1.defs) = some ((recsOf KX.pre.q).map fun d => some d.shape) := by
  intro w os
  kernel_rfl
set_option maxHeartbeats 0 in
theorem KX.g2 : ∀ (w : World) (os : OsState), (HeadRun.endF (HeadRun.stepQ (HeadRun.denQ HeadRun.tabQ) KX.pre.p w) KX.pre.M KX.pre.p w os).map (fun s => (HeadRun.seenQ KX.pre.q KX.pre.loose (PySem.importedModules KX.pre.p.main.body) KX.pre.Xt s.abs).1.ownsOk) = some (true) := by
  intro w os
  kernel_rfl
set_option maxHeartbeats 0 in
theorem KX.g3 : ∀ (w : World) (os : OsState), (HeadRun.endF (HeadRun.stepQ (HeadRun.denQ HeadRun.tabQ) KX.pre.p w) KX.pre.M KX.pre.p w os).map (fun s => (HeadRun.seenQ KX.pre.q KX.pre.loose (PySem.importedModules KX.pre.p.main.body) KX.pre.Xt s.abs).2.2.1) = some (true) := by
  intro w os
  kernel_rfl
set_option maxHeartbeats 0 in
theorem KX.g4 : ∀ (w : World) (os : OsState), (HeadRun.endF (HeadRun.stepQ (HeadRun.denQ HeadRun.tabQ) KX.pre.p w) KX.pre.M KX.pre.p w os).map (fun s => (HeadRun.seenQ KX.pre.q KX.pre.loose (PySem.importedModules KX.pre.p.main.body) KX.pre.Xt s.abs).2.2.2.1) = some (true) := by
  intro w os
  kernel_rfl
set_option maxHeartbeats 0 in
theorem KX.g5 : ∀ (w : World) (os : OsState), (HeadRun.endF (HeadRun.stepQ (HeadRun.denQ HeadRun.tabQ) KX.pre.p w) KX.pre.M KX.pre.p w os).map (fun s => ((HeadRun.seenQ KX.pre.q KX.pre.loose (PySem.importedModules KX.pre.p.main.body) KX.pre.Xt s.abs).2.2.2.2.1, (HeadRun.seenQ KX.pre.q KX.pre.loose (PySem.importedModules KX.pre.p.main.body) KX.pre.Xt s.abs).2.2.2.2.2.2.1, (HeadRun.seenQ KX.pre.q KX.pre.loose (PySem.importedModules KX.pre.p.main.body) KX.pre.Xt s.abs).2.2.2.2.2.2.2.2)) = some ((pinGoodD (drecsOf KX.pre.q), plainGoodD KX.pre.q KX.pre.loose, clsGoodW KX.pre.q KX.pre.loose)) := by
  intro w os
  kernel_rfl
set_option maxHeartbeats 0 in
theorem KX.g6 : ∀ (w : World) (os : OsState), (HeadRun.endF (HeadRun.stepQ (HeadRun.denQ HeadRun.tabQ) KX.pre.p w) KX.pre.M KX.pre.p w os).map (fun s => (HeadRun.seenQ KX.pre.q KX.pre.loose (PySem.importedModules KX.pre.p.main.body) KX.pre.Xt s.abs).2.2.2.2.2.2.2.1) = some (wideGood KX.pre.q) := by
  intro w os
  kernel_rfl
set_option maxHeartbeats 0 in
theorem KX.g7 : ∀ (w : World) (os : OsState), (HeadRun.endF (HeadRun.stepQ (HeadRun.denQ HeadRun.tabQ) KX.pre.p w) KX.pre.M KX.pre.p w os).map (fun s => KX.hdL ((HeadRun.seenQ KX.pre.q KX.pre.loose (PySem.importedModules KX.pre.p.main.body) KX.pre.Xt s.abs).2.2.2.2.2.1)) = some (KX.hdR (plainGoodE KX.pre.q (looseW KX.pre.q KX.pre.loose))) := by
  intro w os
  kernel_rfl
set_option maxHeartbeats 0 in
theorem KX.g8 : ∀ (w : World) (os : OsState), (HeadRun.endF (HeadRun.stepQ (HeadRun.denQ HeadRun.tabQ) KX.pre.p w) KX.pre.M KX.pre.p w os).map (fun s => KX.hdL (KX.tlL ((HeadRun.seenQ KX.pre.q KX.pre.loose (PySem.importedModules KX.pre.p.main.body) KX.pre.Xt s.abs).2.2.2.2.2.1))) = some (KX.hdR (KX.tlR (plainGoodE KX.pre.q (looseW KX.pre.q KX.pre.loose)))) := by
  intro w os
  kernel_rfl
set_option maxHeartbeats 0 in
theorem KX.g9 : ∀ (w : World) (os : OsState), (HeadRun.endF (HeadRun.stepQ (HeadRun.denQ HeadRun.tabQ) KX.pre.p w) KX.pre.M KX.pre.p w os).map (fun s => KX.hdL (KX.tlL (KX.tlL ((HeadRun.seenQ KX.pre.q KX.pre.loose (PySem.importedModules KX.pre.p.main.body) KX.pre.Xt s.abs).2.2.2.2.2.1)))) = some (KX.hdR (KX.tlR (KX.tlR (plainGoodE KX.pre.q (looseW KX.pre.q KX.pre.loose))))) := by
  intro w os
  kernel_rfl
set_option maxHeartbeats 0 in
theorem KX.g10 : ∀ (w : World) (os : OsState), (HeadRun.endF (HeadRun.stepQ (HeadRun.denQ HeadRun.tabQ) KX.pre.p w) KX.pre.M KX.pre.p w os).map (fun s => KX.tlL (KX.tlL (KX.tlL ((HeadRun.seenQ KX.pre.q KX.pre.loose (PySem.importedModules KX.pre.p.main.body) KX.pre.Xt s.abs).2.2.2.2.2.1)))) = some (KX.tlR (KX.tlR (KX.tlR (plainGoodE KX.pre.q (looseW KX.pre.q KX.pre.loose))))) := by
  intro w os
  kernel_rfl
theorem KX.qA : ∀ (w : World) (os : OsState), (HeadRun.endF (HeadRun.stepQ (HeadRun.denQ HeadRun.tabQ) KX.pre.p w) KX.pre.M KX.pre.p w os).map (fun s => HeadRun.looksF KX.pre.p (boot_heap w.params) s.abs) = some (true) := fun w os => KX.fst_of (KX.g0 w os)
theorem KX.qK : ∀ (w : World) (os : OsState), (HeadRun.endF (HeadRun.stepQ (HeadRun.denQ HeadRun.tabQ) KX.pre.p w) KX.pre.M KX.pre.p w os).map (fun s => KX.pre.as.map (HeadRun.getT s)) = some ((KX.pre.K w.params).map fun x => some x.2) := fun w os => KX.fst_of (KX.snd_of (KX.g0 w os))
theorem KX.qS1 : ∀ (w : World) (os : OsState), (HeadRun.endF (HeadRun.stepQ (HeadRun.denQ HeadRun.tabQ) KX.pre.p w) KX.pre.M KX.pre.p w os).map (fun s => (HeadRun.seenQ KX.pre.q KX.pre.loose (PySem.importedModules KX.pre.p.main.body) KX.pre.Xt s.abs).1.defs) = some ((recsOf KX.pre.q).map fun d => some d.shape) := fun w os => KX.g1 w os
theorem KX.qS2 : ∀ (w : World) (os : OsState), (HeadRun.endF (HeadRun.stepQ (HeadRun.denQ HeadRun.tabQ) KX.pre.p w) KX.pre.M KX.pre.p w os).map (fun s => (HeadRun.seenQ KX.pre.q KX.pre.loose (PySem.importedModules KX.pre.p.main.body) KX.pre.Xt s.abs).1.ownsOk) = some (true) := fun w os => KX.g2 w os
theorem KX.qS3 : ∀ (w : World) (os : OsState), (HeadRun.endF (HeadRun.stepQ (HeadRun.denQ HeadRun.tabQ) KX.pre.p w) KX.pre.M KX.pre.p w os).map (fun s => ((HeadRun.seenQ KX.pre.q KX.pre.loose (PySem.importedModules KX.pre.p.main.body) KX.pre.Xt s.abs).1.names, (HeadRun.seenQ KX.pre.q KX.pre.loose (PySem.importedModules KX.pre.p.main.body) KX.pre.Xt s.abs).1.globalsOk, (HeadRun.seenQ KX.pre.q KX.pre.loose (PySem.importedModules KX.pre.p.main.body) KX.pre.Xt s.abs).1.builtinsOk, (HeadRun.seenQ KX.pre.q KX.pre.loose (PySem.importedModules KX.pre.p.main.body) KX.pre.Xt s.abs).1.noLimit, (HeadRun.seenQ KX.pre.q KX.pre.loose (PySem.importedModules KX.pre.p.main.body) KX.pre.Xt s.abs).1.gens)) = some (([], true, true, true, 0)) := fun w os => KX.snd_of (KX.snd_of (KX.snd_of (KX.g0 w os)))
theorem KX.qB2 : ∀ (w : World) (os : OsState), (HeadRun.endF (HeadRun.stepQ (HeadRun.denQ HeadRun.tabQ) KX.pre.p w) KX.pre.M KX.pre.p w os).map (fun s => (HeadRun.seenQ KX.pre.q KX.pre.loose (PySem.importedModules KX.pre.p.main.body) KX.pre.Xt s.abs).2.1) = some (bltViewBooted) := fun w os => KX.fst_of (KX.snd_of (KX.snd_of (KX.g0 w os)))
theorem KX.qB3 : ∀ (w : World) (os : OsState), (HeadRun.endF (HeadRun.stepQ (HeadRun.denQ HeadRun.tabQ) KX.pre.p w) KX.pre.M KX.pre.p w os).map (fun s => (HeadRun.seenQ KX.pre.q KX.pre.loose (PySem.importedModules KX.pre.p.main.body) KX.pre.Xt s.abs).2.2.1) = some (true) := fun w os => KX.g3 w os
theorem KX.qB4 : ∀ (w : World) (os : OsState), (HeadRun.endF (HeadRun.stepQ (HeadRun.denQ HeadRun.tabQ) KX.pre.p w) KX.pre.M KX.pre.p w os).map (fun s => (HeadRun.seenQ KX.pre.q KX.pre.loose (PySem.importedModules KX.pre.p.main.body) KX.pre.Xt s.abs).2.2.2.1) = some (true) := fun w os => KX.g4 w os
theorem KX.qB5 : ∀ (w : World) (os : OsState), (HeadRun.endF (HeadRun.stepQ (HeadRun.denQ HeadRun.tabQ) KX.pre.p w) KX.pre.M KX.pre.p w os).map (fun s => (HeadRun.seenQ KX.pre.q KX.pre.loose (PySem.importedModules KX.pre.p.main.body) KX.pre.Xt s.abs).2.2.2.2.1) = some (pinGoodD (drecsOf KX.pre.q)) := fun w os => KX.fst_of (KX.g5 w os)
theorem KX.qB7 : ∀ (w : World) (os : OsState), (HeadRun.endF (HeadRun.stepQ (HeadRun.denQ HeadRun.tabQ) KX.pre.p w) KX.pre.M KX.pre.p w os).map (fun s => (HeadRun.seenQ KX.pre.q KX.pre.loose (PySem.importedModules KX.pre.p.main.body) KX.pre.Xt s.abs).2.2.2.2.2.2.1) = some (plainGoodD KX.pre.q KX.pre.loose) := fun w os => KX.fst_of (KX.snd_of (KX.g5 w os))
theorem KX.qB8 : ∀ (w : World) (os : OsState), (HeadRun.endF (HeadRun.stepQ (HeadRun.denQ HeadRun.tabQ) KX.pre.p w) KX.pre.M KX.pre.p w os).map (fun s => (HeadRun.seenQ KX.pre.q KX.pre.loose (PySem.importedModules KX.pre.p.main.body) KX.pre.Xt s.abs).2.2.2.2.2.2.2.1) = some (wideGood KX.pre.q) := fun w os => KX.g6 w os
theorem KX.qB9 : ∀ (w : World) (os : OsState), (HeadRun.endF (HeadRun.stepQ (HeadRun.denQ HeadRun.tabQ) KX.pre.p w) KX.pre.M KX.pre.p w os).map (fun s => (HeadRun.seenQ KX.pre.q KX.pre.loose (PySem.importedModules KX.pre.p.main.body) KX.pre.Xt s.abs).2.2.2.2.2.2.2.2) = some (clsGoodW KX.pre.q KX.pre.loose) := fun w os => KX.snd_of (KX.snd_of (KX.g5 w os))
theorem KX.qP0 : ∀ (w : World) (os : OsState), (HeadRun.endF (HeadRun.stepQ (HeadRun.denQ HeadRun.tabQ) KX.pre.p w) KX.pre.M KX.pre.p w os).map (fun s => KX.hdL ((HeadRun.seenQ KX.pre.q KX.pre.loose (PySem.importedModules KX.pre.p.main.body) KX.pre.Xt s.abs).2.2.2.2.2.1)) = some (KX.hdR (plainGoodE KX.pre.q (looseW KX.pre.q KX.pre.loose))) := fun w os => KX.g7 w os
theorem KX.qP1 : ∀ (w : World) (os : OsState), (HeadRun.endF (HeadRun.stepQ (HeadRun.denQ HeadRun.tabQ) KX.pre.p w) KX.pre.M KX.pre.p w os).map (fun s => KX.hdL (KX.tlL ((HeadRun.seenQ KX.pre.q KX.pre.loose (PySem.importedModules KX.pre.p.main.body) KX.pre.Xt s.abs).2.2.2.2.2.1))) = some (KX.hdR (KX.tlR (plainGoodE KX.pre.q (looseW KX.pre.q KX.pre.loose)))) := fun w os => KX.g8 w os
theorem KX.qP2 : ∀ (w : World) (os : OsState), (HeadRun.endF (HeadRun.stepQ (HeadRun.denQ HeadRun.tabQ) KX.pre.p w) KX.pre.M KX.pre.p w os).map (fun s => KX.hdL (KX.tlL (KX.tlL ((HeadRun.seenQ KX.pre.q KX.pre.loose (PySem.importedModules KX.pre.p.main.body) KX.pre.Xt s.abs).2.2.2.2.2.1)))) = some (KX.hdR (KX.tlR (KX.tlR (plainGoodE KX.pre.q (looseW KX.pre.q KX.pre.loose))))) := fun w os => KX.g9 w os
theorem KX.qP3 : ∀ (w : World) (os : OsState), (HeadRun.endF (HeadRun.stepQ (HeadRun.denQ HeadRun.tabQ) KX.pre.p w) KX.pre.M KX.pre.p w os).map (fun s => KX.tlL (KX.tlL (KX.tlL ((HeadRun.seenQ KX.pre.q KX.pre.loose (PySem.importedModules KX.pre.p.main.body) KX.pre.Xt s.abs).2.2.2.2.2.1)))) = some (KX.tlR (KX.tlR (KX.tlR (plainGoodE KX.pre.q (looseW KX.pre.q KX.pre.loose))))) := fun w os => KX.g10 w os
theorem KX.qB : ∀ (w : World) (os : OsState), (HeadRun.endF (HeadRun.stepQ (HeadRun.denQ HeadRun.tabQ) KX.pre.p w) KX.pre.M KX.pre.p w os).map (fun s => (HeadRun.seenQ KX.pre.q KX.pre.loose (PySem.importedModules KX.pre.p.main.body) KX.pre.Xt s.abs)) = some (openGood KX.pre.q KX.pre.loose) := fun w os => KX.pair (KX.seen_of (KX.qS1 w os) (KX.qS2 w os) (KX.qS3 w os)) (KX.pair (KX.qB2 w os) (KX.pair (KX.qB3 w os) (KX.pair (KX.qB4 w os) (KX.pair (KX.qB5 w os) (KX.pair (KX.cons_of (KX.qP0 w os) (KX.cons_of (KX.qP1 w os) (KX.cons_of (KX.qP2 w os) (KX.qP3 w os)))) (KX.pair (KX.qB7 w os) (KX.pair (KX.qB8 w os) (KX.qB9 w os))))))))
theorem KX.run : ∀ (w : World) (os : OsState), (HeadRun.endF (HeadRun.stepQ (HeadRun.denQ HeadRun.tabQ) KX.pre.p w) KX.pre.M KX.pre.p w os).map (fun s => (HeadRun.looksF KX.pre.p (boot_heap w.params) s.abs, HeadRun.seenQ KX.pre.q KX.pre.loose (PySem.importedModules KX.pre.p.main.body) KX.pre.Xt s.abs, KX.pre.as.map (HeadRun.getT s))) = some (true, openGood KX.pre.q KX.pre.loose, (KX.pre.K w.params).map fun x => some x.2) := fun w os =>
  KX.both (KX.qA w os) (KX.both (KX.qB w os) (KX.qK w os))
end
namespace DS
open PySem L2 PyProof.Rows
/-- a def's promise somewhere below the running body -/
theorem run_sub {X : Cx} {CX : CXT} {n : Nat} {f : Addr} {fd : FuncData} {ps : List Str} {sp : Sp} {E : XK} {A : Around} {pins : List (Addr × Obj)} {σ : L2.St} {H : Hp} {s : Shared} {Q : VK} {us : List Value} {vs : List V}
    (sb : Sub X n A) (F : FnOk X.prog X.w X.K X.mg X.base CX n f fd ps sp) (hb : Binds X.K fd ps []) (hx : Passes CX X E) (I : L2.Inv X pins σ H s) (r : Vals vs us) (h : sp vs H Q E) :
    wpAny (model X.prog X.w) A (call (.ref f) us) (EP X pins σ Q) X.xe s := by
  have hl : us.length = ps.length := by rw [← r.length]; exact F.len _ _ _ _ h
  have e0 : Env0 X.prog X.w X.K X.mg X.base A X.stack s H := by
    have e := I.env0
    exact ⟨by rw [sb.fr]; exact e.frames, e.mod, e.bs, e.bsz, e.funs, e.frf, e.hok, e.bare⟩
  refine wpAny_call (codeAny_mono (F.run A X.stack s H ⟨us, []⟩ us vs Q E sb.room e0 (by
    have := hb s us I.kIn (by simpa using hl)
    simpa using this) r h) fun r s' hq => ?_)
  cases r with
  | error e => exact hx pins σ H s e s' I hq
  | ok fl =>
    cases fl with
    | ret u => exact I.after hq
    | next => exact False.elim hq
    | brk => exact False.elim hq
    | cont => exact False.elim hq
/-- x == y by the own __eq__, both of the class at C; whatever the answer -/
def rEqII (C : Addr) (sp : Sp) (E : XK) : R2 := fun x y H Q => ∃ a b dx dy fs gs, x = .ref a ∧ y = .ref b ∧ H a = some (.ins C dx fs) ∧ H b = some (.ins C dy gs) ∧ sp [.ref a, .ref b] H (fun v H' => ∃ k, v = .bl k ∧ Q (.bl k) H') E
def rNeII (C : Addr) (sp : Sp) (E : XK) : R2 := fun x y H Q => ∃ a b dx dy fs gs, x = .ref a ∧ y = .ref b ∧ H a = some (.ins C dx fs) ∧ H b = some (.ins C dy gs) ∧ sp [.ref a, .ref b] H (fun v H' => ∃ k, v = .bl k ∧ Q (.bl (!k)) H') E
theorem cmpback_bl {X : Cx} {pins : List (Addr × Obj)} {σ : L2.St} {Q : VK} {v : Value} {s' : Shared} (h : EP X pins σ (fun v H' => ∃ k, v = .bl k ∧ Q (.bl k) H') v s') : PySem.W.CmpBack (EP X pins σ Q) v s' := by
  obtain ⟨z, H', I, r, k, rfl, q⟩ := h
  obtain rfl : v = Value.bool k := r
  exact ⟨.bl k, H', I, rfl, q⟩
theorem op_eqII {X : Cx} {CX : CXT} {n : Nat} {C f : Addr} {fd : FuncData} {ps : List Str} {sp : Sp} {E : XK} (hm : Meth X.K C "__eq__" f) (F : FnOk X.prog X.w X.K X.mg X.base CX n f fd ps sp) (hr : Room n X.A) (hb : Binds X.K fd ps []) (hx : Passes CX X E) :
    OpR X (compareOp .Eq) (rEqII C sp E) := by
  intro pins s σ H x y v u Q I rx ry h
  obtain ⟨a, b, dx, dy, fs, gs, rfl, rfl, ha, hb', q⟩ := h
  obtain rfl : v = Value.ref a := rx
  obtain rfl : u = Value.ref b := ry
  obtain ⟨mA, J, _⟩ := ins_get I.hok ha
  obtain ⟨mB, J', _⟩ := ins_get I.hok hb'
  obtain ⟨od, J, _⟩ := J.look
  obtain ⟨od', J', _⟩ := J'.look
  obtain ⟨m, hF⟩ := I.fr
  show wpAny (model X.prog X.w) X.A (richCompare .Eq (.ref a) (.ref b)) (EP X pins σ Q) X.xe s
  refine PySem.W.cmp_K (op := .Eq) (tb := .ref C) hr.units0 hF I.ok.mod.kin J J'.type (by simp [PySem.W.notFirst]) hm.at_ hm.fn ?_
  exact wpAny_mono (run_sub (vs := [.ref a, .ref b]) ⟨hr, rfl⟩ F hb hx I (.cons rfl (.cons rfl .nil)) q) (fun v s' h => cmpback_bl h) fun _ _ z => z
theorem ne_own {X : Cx} {n : Nat} {C a b : Addr} {pins : List (Addr × Obj)} {σ : L2.St} {s : Shared} {Q : VK} {f : Addr} {oa ob : Obj} {oda odb : Option Obj} (hr : Room (n + 1) X.A) (X0 : X.K.In s.heap) (J : PySem.W.InstAt s.heap a oa C oda) (J' : PySem.W.InstAt s.heap b ob C odb)
    (hne : PySem.W.findIn X.K (.ref C) "__ne__" = some (some (.builtin "object.__ne__"))) (hmo : PySem.W.mroIn X.K C (.type "object") = some true) (hs : PySem.W.findIn X.K (.ref C) "__eq__" = some (some (.ref f))) (hf : PySem.W.isFn X.K (.ref f) = true)
    (h : wpAny (model X.prog X.w) X.A.in1 (call (.ref f) [.ref a, .ref b]) (EP X pins σ (fun v H' => ∃ k, v = .bl k ∧ Q (.bl (!k)) H')) X.xe s) :
    wpAny (model X.prog X.w) X.A (richCompare .NotEq (.ref a) (.ref b)) (EP X pins σ Q) X.xe s := by
  have call1 : wpAny (model X.prog X.w) X.A (call (.builtin "object.__ne__") [.ref a, .ref b]) (fun v s' => ∃ k : Bool, v = .bool k ∧ EP X pins σ Q v s') X.xe s := by
    refine wpAny_call (codeAny_call_builtin PySem.F.slot_object_ne.plain PySem.F.entry_object_ne (PySem.W.check_slot (i := "object.__ne__") (owner := "object") (n := "__ne__") (by decide +kernel) (by decide +kernel) (J.type.andThen (PySem.W.looks_mroIn X0 hmo)) (PySem.F.args_object_ne_2 _ _) ?_))
    unfold Builtin.«object.__ne__»
    refine wpAny_bind (m := slotArgs "__ne__" 1 _) (wpAny_pure ?_)
    refine wpAny_bind (m := cRoomFor _ _) (wpAny_cRoomFor hr.in1.units0 ?_)
    refine wpAny_bind (m := callSpecialIfBound? (.ref a) (Str.ofString "__eq__") _) (PySem.W.ifBound_K X0 J hs hf (wpAny_mono h (fun r s' hq => ?_) fun _ _ y => y))
    obtain ⟨z, H', I', rz, k, rfl, q⟩ := hq
    obtain rfl : r = Value.bool k := rz
    refine wpAny_bind (wpAny_truthy_bool ?_)
    exact wpAny_pure ⟨!k, rfl, .bl (!k), H', I', rfl, q⟩
  have one : wpAny (model X.prog X.w) X.A (tryCompare (.ref a) "__ne__" (.ref b)) (fun r s' => ∃ v, r = some v ∧ EP X pins σ Q v s') X.xe s := by
    unfold tryCompare
    simp only [callSpecialIfBound?, bindSpecialIfBound?]
    refine wpAny_bind (wpAny_holding (wpAny_bind (wpAny_bind (wpAny_bind (J.type.here ((PySem.W.looks_findIn X0 hne).here ?_))))))
    refine wpAny_bind (wpAny_askSetting (PySem.wpAny_ite ?_))
    have fin : wpAny (model X.prog X.w) X.A (call (.builtin "object.__ne__") ([.ref a] ++ [.ref b]) >>= fun v => pure (some v)) (fun r s' => wpAny (model X.prog X.w) X.A (match r with | some .notImplemented | none => pure none | some v => pure (some v)) (fun r s' => ∃ v, r = some v ∧ EP X pins σ Q v s') X.xe s') X.xe s :=
      wpAny_bind (wpAny_mono call1 (fun v s' h' => wpAny_pure (by
        obtain ⟨k, rfl, q⟩ := h'
        exact wpAny_pure ⟨_, rfl, q⟩)) fun _ _ h' => h')
    split
    · exact wpAny_bind ((PySem.W.Looks.of_pure (PySem.F.slot_object_ne.bind _)).here (wpAny_pure (by exact fin)))
    · exact wpAny_tryCatch (wpAny_bind ((PySem.W.Looks.of_pure (PySem.F.slot_object_ne.bind _)).here (wpAny_pure (by exact fin))))
  unfold richCompare
  simp only [PySem.oneThing_ref]
  refine wpAny_holding (wpAny_bind (wpAny_cRoomFor hr.units0 ?_))
  refine wpAny_bind (J.type.here (wpAny_bind (J'.type.here ?_)))
  rw [if_neg (by simp)]
  refine wpAny_bind (wpAny_pure ?_)
  simp only [Bool.false_eq_true, if_false]
  refine wpAny_bind (wpAny_mono one (fun r s' z => ?_) fun _ _ e => e)
  obtain ⟨v, rfl, hq⟩ := z
  exact wpAny_pure hq
end DS
namespace DS
open PySem L2 PyProof.Rows
theorem op_neII {X : Cx} {CX : CXT} {n : Nat} {C f : Addr} {fd : FuncData} {ps : List Str} {sp : Sp} {E : XK} (hm : Meth X.K C "__eq__" f) (hne : PySem.W.findIn X.K (.ref C) "__ne__" = some (some (.builtin "object.__ne__"))) (hmo : PySem.W.mroIn X.K C (.type "object") = some true)
    (F : FnOk X.prog X.w X.K X.mg X.base CX n f fd ps sp) (hr : Room (n + 1) X.A) (hb : Binds X.K fd ps []) (hx : Passes CX X E) : OpR X (compareOp .NotEq) (rNeII C sp E) := by
  intro pins s σ H x y v u Q I rx ry h
  obtain ⟨a, b, dx, dy, fs, gs, rfl, rfl, ha, hb', q⟩ := h
  obtain rfl : v = Value.ref a := rx
  obtain rfl : u = Value.ref b := ry
  obtain ⟨mA, J, _⟩ := ins_get I.hok ha
  obtain ⟨mB, J', _⟩ := ins_get I.hok hb'
  obtain ⟨od, J, _⟩ := J.look
  obtain ⟨od', J', _⟩ := J'.look
  exact ne_own hr I.kIn J J' hne hmo hm.at_ hm.fn (run_sub (vs := [.ref a, .ref b]) ⟨hr.in1, rfl⟩ F hb hx I (.cons rfl (.cons rfl .nil)) q)
theorem cmpback_of {X : Cx} {pins : List (Addr × Obj)} {σ : L2.St} {Q : VK} {v : Value} {s' : Shared} (h : EP X pins σ Q v s') : PySem.W.CmpBack (EP X pins σ Q) v s' := by
  obtain ⟨z, H', I, r, q⟩ := id h
  cases v with
  | notImplemented =>
    cases z <;> first | (obtain ⟨t, e⟩ := r; cases e) | cases r
  | _ => exact h
/-- x op y by the own method, both of the class at C -/
def rBinII (C : Addr) (sp : Sp) (E : XK) : R2 := fun x y H Q => ∃ a b dx dy fs gs, x = .ref a ∧ y = .ref b ∧ H a = some (.ins C dx fs) ∧ H b = some (.ins C dy gs) ∧ sp [.ref a, .ref b] H Q E
theorem op_binII {X : Cx} {CX : CXT} {n : Nat} {C f : Addr} {fd : FuncData} {ps : List Str} {sp : Sp} {E : XK} {op : Operator} {nm : Str} (hm : Meth X.K C nm f) (hnm : PySem.dunder op.info.2 = nm) (hc : PySem.W.selfFirst X.K C = true)
    (F : FnOk X.prog X.w X.K X.mg X.base CX n f fd ps sp) (hr : Room n X.A) (hb : Binds X.K fd ps []) (hx : Passes CX X E) : OpR X (binaryOp op) (rBinII C sp E) := by
  intro pins s σ H x y v u Q I rx ry h
  obtain ⟨a, b, dx, dy, fs, gs, rfl, rfl, ha, hb', q⟩ := h
  obtain rfl : v = Value.ref a := rx
  obtain rfl : u = Value.ref b := ry
  obtain ⟨mA, J, _⟩ := ins_get I.hok ha
  obtain ⟨mB, J', _⟩ := ins_get I.hok hb'
  obtain ⟨od, J, _⟩ := J.look
  obtain ⟨od', J', _⟩ := J'.look
  obtain ⟨m, hF⟩ := I.fr
  refine PySem.W.binop_K hF I.ok.mod.kin J J'.type hc (by rw [hnm]; exact hm.at_) hm.fn ?_
  exact wpAny_mono (run_sub (vs := [.ref a, .ref b]) ⟨hr, rfl⟩ F hb hx I (.cons rfl (.cons rfl .nil)) q) (fun v s' h => cmpback_of h) fun _ _ z => z
/-- x op n by the own method, n an int -/
structure IntR (K : PySem.W.Frag) (C : Addr) (op : Operator) : Prop where
  rc : ∃ rc, PySem.W.findIn K (.ref C) (PySem.dunderR op.info.2) = some rc ∧ (rc = none ∨ ∃ g : Addr, rc = some (.ref g))
  fo : ∃ fo, PySem.W.findIn K (.type "int") (PySem.dunder op.info.2) = some fo
  ro : ∃ ro, PySem.W.findIn K (.type "int") (PySem.dunderR op.info.2) = some ro
  sub : PySem.W.subIn K (.type "int") (.ref C) = some false
def rBinIZ (C : Addr) (sp : Sp) (E : XK) : R2 := fun x y H Q => ∃ a dx fs n, x = .ref a ∧ y = .int n ∧ H a = some (.ins C dx fs) ∧ sp [.ref a, .int n] H Q E
theorem op_binIZ {X : Cx} {CX : CXT} {n : Nat} {C f : Addr} {fd : FuncData} {ps : List Str} {sp : Sp} {E : XK} {op : Operator} {nm : Str} (hm : Meth X.K C nm f) (hnm : PySem.dunder op.info.2 = nm) (hc : PySem.W.selfFirst X.K C = true) (hi : IntR X.K C op)
    (F : FnOk X.prog X.w X.K X.mg X.base CX n f fd ps sp) (hr : Room n X.A) (hb : Binds X.K fd ps []) (hx : Passes CX X E) : OpR X (binaryOp op) (rBinIZ C sp E) := by
  intro pins s σ H x y v u Q I rx ry h
  obtain ⟨a, dx, fs, z, rfl, rfl, ha, q⟩ := h
  obtain rfl : v = Value.ref a := rx
  obtain ⟨t, rfl⟩ := (show ∃ t, u = Value.int z t from ry)
  obtain ⟨mA, J, _⟩ := ins_get I.hok ha
  obtain ⟨od, J, _⟩ := J.look
  obtain ⟨m, hF⟩ := I.fr
  obtain ⟨rc, hrc, hp⟩ := hi.rc
  obtain ⟨fo, hfo⟩ := hi.fo
  obtain ⟨ro, hro⟩ := hi.ro
  refine PySem.W.ksp_binT (T := "int") hF I.ok.mod.kin J rfl hc (by rw [hnm]; exact hm.at_) hm.fn hrc hp hfo hro hi.sub ?_
  exact wpAny_mono (run_sub (vs := [.ref a, .int z]) ⟨hr, rfl⟩ F hb hx I (.cons rfl (.cons ⟨t, rfl⟩ .nil)) q) (fun v s' h => cmpback_of h) fun _ _ z => z
end DS
namespace DS
open PySem L2 PyProof.Rows
/-- X(), X an own exception class without own __init__ -/
theorem pmk_own0 {X : Cx} {C : Addr} {bmB : List Value} {B newId initId : String} {x : Str} {p pos : Pos} (F : ExcBaseFacts B newId initId bmB) (q : PySem.W.excIn X.K C bmB newId = true) (gC : X.mg x = some (.ref C)) (kC : PySem.W.keepIn X.K (.ref C) = true) (r : Raises X (.ref C)) (hg : Gl X x)
    (hdb : (x == ("__debug__" : Str)) = false := by decide) : PMk X (.Call (.Name x p) [] [] pos) (fun _ H Q => Q (.ref C) none H) := by
  intro pins s σ H Q I h
  refine wpAny_Call_Name_kw (ld_glob I hg gC ?_ hdb)
  refine PySem.W.callWith_K0 I.kIn kC ?_
  show wpAny _ _ (call (.ref C) []) _ _ _
  obtain ⟨bm, N, nm, qn, bs, hdct, sn, sub, ab, col, dd, k0, k1, k2, k3, k5, mN, hC, hN, hni, T⟩ := exc_obj I.kIn q
  exact wpAny_call_exc_subT F T hC hN hni (fun h' e hm => mk_of I hm r h (I.hok.gone hm.new)) (Nat.zero_le _)
end DS
namespace DS
open PySem L2
theorem w_dget2 {td ty tx : TE} {σ : St} {H : Hp} {Q : VK} (h : td σ H fun x H1 => ∃ a, x = .ref a ∧ IsD H1 a ∧ ty σ H1 fun y H2 => tx σ H2 fun z H3 => ∃ o, DGet H3 a y o ∧ Q (o.getD z) H3) : tDGet2 td ty tx σ H Q := h
end DS
namespace DS
open PySem L2 PySem.Spec PyProof.Rows
/-! ### int('1' + '0' * n) -/
def rMulS : R2 := fun x y H Q => ∃ a n, x = .str a ∧ y = .int n ∧ MulOk a n ∧ Q (.str (Txt.mul a n)) H
theorem op_mulS {X : Cx} : OpR X (binaryOp .Mult) rMulS := by
  intro pins s σ H x y v u Q I rx ry h
  obtain ⟨a, n, rfl, rfl, ok, q⟩ := h
  obtain ⟨t, rfl⟩ := (show ∃ t, v = Value.str a t from rx)
  obtain ⟨t', rfl⟩ := (show ∃ t, u = Value.int n t from ry)
  exact SB.mul ok fun t2 k => ⟨.str (Txt.mul a n), H, I.tok k, ⟨_, rfl⟩, q⟩
theorem foldl_arr (x : Array Nat) : ∀ (n : Nat) (acc : Array Nat), ((List.replicate n x).foldl (· ++ ·) acc).toList = acc.toList ++ (List.replicate n x.toList).flatten
  | 0, acc => by simp
  | n + 1, acc => by
    rw [List.replicate_succ, List.foldl_cons, foldl_arr x n, Array.toList_append, List.replicate_succ, List.flatten_cons, List.append_assoc]
theorem zero_cps : ("0" : Str).cps.toList = [48] := by decide +kernel
theorem one_cps : ("1" : Str).cps.toList = [49] := by decide +kernel
theorem flat48 : ∀ n : Nat, (List.replicate n [48]).flatten = List.replicate n 48
  | 0 => rfl
  | n + 1 => by rw [List.replicate_succ, List.flatten_cons, flat48 n]; rfl
theorem mul_cps (n : Nat) : (Txt.mul "0" (n : Int)).cps.toList = List.replicate n 48 := by
  unfold Txt.mul
  have l0 : (("0" : Str).length == 0) = false := by decide +kernel
  by_cases h : (n : Int) < 1
  · rw [if_pos h]
    have : n = 0 := by omega
    subst this
    rfl
  · rw [if_neg h]
    by_cases h1 : ((n : Int) == 1) = true
    · rw [h1, Bool.true_or, if_pos rfl]
      have : n = 1 := by
        have := beq_iff_eq.mp h1
        omega
      subst this
      exact zero_cps
    · rw [Bool.not_eq_true] at h1
      rw [h1, l0, Bool.false_or, if_neg (by simp)]
      show ((List.replicate ((n : Int)).toNat ("0" : Str).cps).foldl (· ++ ·) #[]).toList = _
      rw [foldl_arr, Int.toNat_natCast, zero_cps, flat48]
      rfl
theorem ten_cps (n : Nat) : (("1" : Str) ++ Txt.mul "0" (n : Int)).cps.toList = 49 :: List.replicate n 48 := by
  show (("1" : Str).cps ++ (Txt.mul "0" (n : Int)).cps).toList = _
  rw [Array.toList_append, one_cps, mul_cps]
  rfl
theorem fold48 : ∀ (n m : Nat), (List.replicate n 48).foldl (fun acc c => acc * 10 + (c - 48)) m = m * 10 ^ n
  | 0, m => by simp
  | n + 1, m => by
    rw [List.replicate_succ, List.foldl_cons, fold48 n, Nat.sub_self, Nat.add_zero, Nat.pow_succ, Nat.mul_assoc, Nat.mul_comm 10]
theorem ten_text {n : Nat} (h : n ≤ 600) : PySem.intText? (("1" : Str) ++ Txt.mul "0" (n : Int)) = some ((10 : Int) ^ n) ∧ (("1" : Str) ++ Txt.mul "0" (n : Int)).length ≤ 640 ∧ ("1" : Str).length + (Txt.mul "0" (n : Int)).length ≤ sizeLine := by
  have hc := ten_cps n
  have l1 : (("1" : Str) ++ Txt.mul "0" (n : Int)).length = n + 1 := by
    show (("1" : Str) ++ Txt.mul "0" (n : Int)).cps.size = _
    rw [← Array.length_toList, hc]
    simp
  have l2 : (Txt.mul "0" (n : Int)).length = n := by
    show (Txt.mul "0" (n : Int)).cps.size = _
    rw [← Array.length_toList, mul_cps]
    simp
  refine ⟨?_, by omega, ?_⟩
  · have dg : NumText.AllDigits (("1" : Str) ++ Txt.mul "0" (n : Int)).cps.toList := by
      rw [hc]
      intro c m
      rcases List.mem_cons.mp m with z | z
      · omega
      · have := List.eq_of_mem_replicate z
        omega
    rw [intText_digits dg (by rw [hc]; simp) (by omega), hc]
    unfold NumText.digitsVal
    rw [List.foldl_cons, fold48]
    simp
  · have e : ("1" : Str).length = 1 := by decide +kernel
    rw [l2, e]
    have : (641 : Nat) ≤ sizeLine := by decide
    omega
theorem mulok_ten {n : Nat} (h : n ≤ 600) : MulOk "0" (n : Int) := by
  refine ⟨by simp; omega, fun _ _ => ?_, fun _ _ => ?_⟩
  · have e : (("0" : Str).length : Int) = 1 := by decide +kernel
    rw [e]
    by_cases z : (n : Int) = 0
    · omega
    · have : (1 : Int) ≤ (2 ^ 63 - 1) / (n : Int) := Int.le_ediv_of_mul_le (by omega) (by omega)
      omega
  · have e : ("0" : Str).length = 1 := by decide +kernel
    rw [e]
    have : (641 : Nat) ≤ sizeLine := by decide
    exact decide_eq_false (by simp; omega)
end DS
namespace DS
open PySem L2
/-! ### sizes, hidden from omega -/
def B (k : Nat) (a : Int) : Prop := a.natAbs < 2 ^ k
theorem B.mono {k l : Nat} {a : Int} (h : B k a) (e : k ≤ l) : B l a := pow_wide h e
theorem B.add {k l : Nat} {a b : Int} (h : B k a) (g : B l b) : B (max k l + 1) (a + b) := by
  have h1 := h.mono (Nat.le_max_left k l)
  have g1 := g.mono (Nat.le_max_right k l)
  unfold B at *
  rw [Nat.pow_succ]
  generalize 2 ^ max k l = z at *
  omega
theorem B.neg {k : Nat} {a : Int} (h : B k a) : B k (-a) := by
  unfold B at *
  rw [Int.natAbs_neg]
  exact h
theorem B.sub {k l : Nat} {a b : Int} (h : B k a) (g : B l b) : B (max k l + 1) (a - b) := by
  rw [Int.sub_eq_add_neg]
  exact h.add g.neg
theorem B.mul {k l : Nat} {a b : Int} (h : B k a) (g : B l b) : B (k + l) (a * b) := by
  unfold B at *
  rw [Int.natAbs_mul, Nat.pow_add]
  exact Nat.mul_lt_mul'' h g
theorem B.div {k : Nat} {a b : Int} (h : B k a) : B k (a / b) := Nat.lt_of_le_of_lt (ediv_abs a b) h
theorem B.mod {k : Nat} {a b : Int} (h : B k b) (h0 : 0 < b) : B k (a % b) := by
  have h1 := Int.emod_nonneg a (show b ≠ 0 by omega)
  have h2 := Int.emod_lt_of_pos a h0
  unfold B at *
  generalize 2 ^ k = z at *
  omega
theorem B.le {k : Nat} {a b : Int} (h : B k b) (h0 : 0 ≤ a) (h1 : a ≤ b) : B k a := by
  unfold B at *
  generalize 2 ^ k = z at *
  omega
theorem B.lit {a : Int} {k : Nat} (h : a.natAbs < 2 ^ k := by decide) : B k a := h
theorem B.cmul {k l : Nat} {a b : Int} (h : B k a) (g : B l b) (e : k + l ≤ 999998 := by decide) : CMulA a b := CMulA.w h g e
theorem B.log {k : Nat} {a : Int} (h : B k a) (h0 : 0 < a) (e : k ≤ 9000 := by decide) : a.natAbs.log2 < 9000 := by
  unfold B at h
  have k0 : 0 < k := by
    rcases Nat.eq_zero_or_pos k with z | z
    · subst z
      simp at h
      omega
    · exact z
  exact Nat.lt_of_lt_of_le (PySem.Flt.log2_lt_of k0 h) e
theorem B.ten (n : Nat) : B (4 * n + 1) (10 ^ n) := ten_lt n
theorem B.small {k : Nat} {a : Int} (h0 : -1073741824 < a) (h1 : a < 1073741824) (e : 30 ≤ k := by decide) : B k a := by
  refine B.mono (k := 30) ?_ e
  unfold B
  omega
end DS
namespace DS
open PySem L2
/-! ### __init__ of an own class -/
def IniOk (C p dx : Addr) (fs : List (Str × V)) (H : Hp) (Q : VK) : Prop := H p = some (.ins C dx []) ∧ ∀ H', H' p = some (.ins C dx fs) → (∀ b o, b ≠ p → H b = some o → H' b = some o) → Q .non H'
def InsAt (C : Addr) (H : Hp) (p : Addr) (fs : List (Str × V)) : Prop := ∃ dx, H p = some (.ins C dx fs)
theorem InsAt.same {C : Addr} {H H' : Hp} {p : Addr} {fs : List (Str × V)} (e : Same H H') (h : InsAt C H p fs) : InsAt C H' p fs := by
  obtain ⟨dx, h⟩ := h
  exact ⟨dx, e _ _ h⟩
theorem InsAt.keep {C : Addr} {H H' : Hp} {p : Addr} {fs : List (Str × V)} (e : Keep H H') (h : InsAt C H p fs) : InsAt C H' p fs := by
  obtain ⟨dx, h⟩ := h
  exact ⟨dx, e _ _ h rfl⟩
theorem make_ini {C x dx : Addr} {H : Hp} {Q Q' : VK} {fs : List (Str × V)} (e : Q' = Q) (nx : H x = none) (nd : H dx = none) (ne : dx ≠ x) (h : ∀ H', Same H H' → InsAt C H' x fs → Q (.ref x) H') :
    IniOk C x dx fs (upd (upd H dx (.own x)) x (.ins C dx [])) (fun v H2 => v = .non ∧ Q' (.ref x) H2) := by
  subst e
  refine ⟨upd_same, fun H' e k => ⟨rfl, h H' (fun b o z => ?_) ⟨dx, e⟩⟩⟩
  have n1 : b ≠ x := ne_of_none z nx
  refine k b o n1 ?_
  rw [upd_ne n1, upd_ne (ne_of_none z nd)]
  exact z
theorem ini_end {C p dx : Addr} {fs : List (Str × V)} {H H' : Hp} {Q : VK} (i : IniOk C p dx fs H Q) (e : H' p = some (.ins C dx fs)) (k : ∀ b o, b ≠ p → H b = some o → H' b = some o) : Q .non H' := i.2 H' e k
theorem putF_len (f : Str) (v : V) : ∀ fs : List (Str × V), (putF f v fs).length ≤ fs.length + 1
  | [] => Nat.le_refl _
  | (g, u) :: r => by
    show (if g = f then (g, v) :: r else (g, u) :: putF f v r).length ≤ _
    split
    · exact Nat.le_succ _
    · exact Nat.succ_le_succ (putF_len f v r)
end DS
/-! own exceptions whose __init__ calls super().__init__ -/
namespace DS
open PySem L2 PySem.Spec PyProof.Rows
section
variable {X : Cx} {pins : List (Addr × Obj)} {σ : L2.St} {H : Hp} {s : Shared} {A : Around} {E : Value → Shared → Prop} {a C u : Addr}
/-- the bound __init__ of ValueError, called: nothing of it is told -/
theorem mw_init {us : List Value} {Q : Value → Shared → Prop} (T : OexC X.K C) (I : Inv X pins σ H s) (e : H a = some (exo a C none)) (hu : s.heap.get? u = some (PySem.W.kxs_mw "ValueError.__init__" a)) (hl : us.length ≤ sizeLine) (h : ∀ s', Inv X pins σ H s' → Q .none s') :
    wpAny (model X.prog X.w) A (call (.ref u) us) Q E s := by
  obtain ⟨nm, q, N, bs, bm, sn, sub, ab, col, dd, k0, k1, k2, k3, k5, hC, hbm⟩ := T.cls
  obtain ⟨t1, ho⟩ := exo_at I.hok e
  have hC' := I.kIn _ _ hC
  obtain ⟨hp, g, d, t, os⟩ := s
  have fin : ∀ h' t2, (∀ b o, b ≠ a → hp.get? b = some o → h'.get? b = some o) → h'.get? a = some (PySem.HandSPX.excO C t2) → Q .none ⟨h', g, d, t, os⟩ := fun h' t2 k hx => by
    have J := I.write (t' := t) (x := a) (e := a) (o := exo a C none) (by rw [e]; exact True.intro) (.inl rfl) k ⟨_, hx⟩ (exo_ok hx)
    have eu : upd H a (exo a C none) = H := by
      funext b
      by_cases hb : b = a
      · rw [hb, upd_same, e]
      · rw [upd_ne hb]
    rw [eu] at J
    exact h _ J
  refine wpAny_call (codeAny_of_tree ?_)
  show wpAny _ A.in1 (callAny (.ref u) ⟨us, []⟩) _ _ _
  simp only [callAny]
  refine wpAny_bind (wpAny_load hu ?_)
  simp only [PySem.W.kxs_mw, show (Value.type "method-wrapper" == Value.type "method" || Value.type "method-wrapper" == Value.type "builtin_function_or_method" || Value.type "method-wrapper" == Value.type "method-wrapper") = true by decide, if_true]
  refine PySem.W.KFB.if_so (by decide) ?_
  refine wpAny_bind (PySem.W.check_bound_init PySem.F.excBase_ValueError.toExcCallFacts hC' ho rfl ?_)
  refine wpAny_bind (wpAny_pure (wpAny_pure ?_))
  refine ⟨Code.quiet_builtin _ (by decide +kernel), codeAny_builtin PySem.F.excBase_ValueError.initEntry ?_⟩
  rw [Around.under_plainId PySem.F.excBase_ValueError.init.plain _]
  wp_walk
  refine fin _ hp.objs.size (fun b o hb ho => ?_) ?_
  · rw [Heap.get?_update_other _ _ (Ne.symm hb)]
    exact Heap.get?_push_of_some _ ho
  · rw [Heap.get?_update_self _ (Heap.get?_push_of_some _ ho) rfl]
    rfl
end
section
open NdefX
variable {P : Program} {w : World} {K : PySem.W.Frag} {mg : Str → Option Value} {base : Heap} {N ps : List Str} {f C cc cda : Addr} {qual : Str} {params : Arguments} {scope : Scope} {kV doc pm ct oc ccl cl : Value} {an od cdd cld : Option Addr} {osl ccs csl : Array (Option Value)} {vsC : Array Value} {file : Str} {tf : Tok}
  {cdC : ClassData} {ar : Arg} {e : Expr} {es : List Expr} {rest : List Stmt} {p0 p1 ap cp ep : Pos} {k : Nat} {sp : Sp}
/-- the body of an own exception's __init__ -/
abbrev xBody (e : Expr) (es : List Expr) (rest : List Stmt) (p0 p1 ap cp ep : Pos) : List Stmt := .Expr (.Call (.Attribute (.Call (.Name "super" p0) [] [] p1) "__init__" ap) (e :: es) [] cp) ep :: rest
theorem sinit_ok (lk : K.lookup f = some ⟨oc, od, .func (PySem.W.ksFn "__init__" qual params (xBody e es rest p0 p1 ap cp ep) scope .none kV doc pm an (.ref cda) ct cc), osl⟩) (hcd : PySem.W.codeIn K (.ref cda) qual = true)
    (hcode : K.lookup cda = some ⟨ccl, cdd, .fields vsC, ccs⟩) (hvs : vsC[2]? = some (.str file tf)) (hfile : ((P.main.file : Str) == file) = true) (hcell : K.lookup cc = some ⟨cl, cld, .cell (some (.ref C)), csl⟩) (hC : PySem.W.clsIn K C = some cdC)
    (hsub : PySem.W.mroIn K C (.ref C) = some true) (hsup : mg "super" = none) (htop : (P.main.scope.names.lookup ("super" : Str)).isSome = false) (ho : PySem.W.nsIn K cStatics "thirdparty.any" = some none)
    (hm : PySem.W.ks_superIn K C C "__init__" = some (some (.builtin "ValueError.__init__"))) (hB : PySem.W.subIn K (.ref C) (.type "ValueError") = some true) (T : OexC K C) (S : NScope N ps ["__class__"] scope)
    (har : (params.posonlyargs ++ params.args).head? = some ar) (hps : ps[0]? = some ar.arg) (hks : scope.names.lookup ("super" : Str) = some .globalImplicit) (len : ∀ vs H Q E, sp vs H Q E → vs.length = ps.length)
    {pl : Sem Bool} (hi : ∀ L, interactive (PySem.W.ksEnv qual scope L f (.ref cda) cc) = false) (hsw : ∀ L, swapsWith (.Call (.Attribute (.Call (.Name "super" p0) [] [] p1) "__init__" ap) (e :: es) [] cp) none ep.line (PySem.W.ksEnv qual scope L f (.ref cda) cc) = pure false)
    (hev : ∀ L, eval (.Call (.Attribute (.Call (.Name "super" p0) [] [] p1) "__init__" ap) (e :: es) [] cp) (PySem.W.ksEnv qual scope L f (.ref cda) cc) = (do
      let ov ← attributeBase (.Call (.Name "super" p0) [] [] p1) "__init__" (PySem.W.ksEnv qual scope L f (.ref cda) cc) (eval (.Call (.Name "super" p0) [] [] p1) (PySem.W.ksEnv qual scope L f (.ref cda) cc))
      standAt ap.atName
      let (g, first) ← holding [ov] (getMethod ov "__init__" pl)
      callWith cp g first (backTo cp (starEach (e :: es) (PySem.W.ksEnv qual scope L f (.ref cda) cc))) []))
    (hstar : ∀ env : Env, starEach (e :: es) env = (false, eval e env) :: starEach es env) (hpl : ∀ env : Env, (backTo cp (starEach es env)).any (·.1) = false)
    (hbody : ∀ (A : Around) (outer : List Env) (s : Shared) (H : Hp) (vs : List V) (Q : VK) (E : XK), sp vs H Q E → ∃ (a : Addr) (ta : TA) (t : TS), vs[0]? = some (.ref a) ∧ H a = some (exo a C none) ∧
      PA (ncx CX0 P w K mg base N ⟨"__init__", qual, params, xBody e es rest p0 p1 ap cp ep, scope, [("__class__", cc)], cda⟩ f A outer s H E) (e :: es) ta ∧ PSs (ncx CX0 P w K mg base N ⟨"__init__", qual, params, xBody e es rest p0 p1 ap cp ep, scope, [("__class__", cc)], cda⟩ f A outer s H E) rest t ∧
      ta (startF N vs [some (.ref C)]) H fun ws H1 => ws.length ≤ 1000 ∧ H1 a = some (exo a C none) ∧ t { nx := fun _ H' => Q .non H', rt := Q } (startF N vs [some (.ref C)]) H1) :
    FnOk P w K mg base CX0 (k + 1) f (PySem.W.ksFn "__init__" qual params (xBody e es rest p0 p1 ap cp ep) scope .none kV doc pm an (.ref cda) ct cc) ps sp := by
  refine ⟨len, fun A outer s H args us vs Q E hr e0 hb r hsp => ?_⟩
  have hl := len _ _ _ _ hsp
  have KX : K.In s.heap := e0.mod.kin.keeps fun b o e => (e0.bs b o e).1
  have lim : s.heap.NoLimit := e0.mod.nolimit.keeps fun b o e => (e0.bs b o e).1
  obtain ⟨a, ta, t, hv0, hex, hpa, hpss, hq⟩ := hbody A outer s H vs Q E hsp
  have hcellH : s.heap.IsCell cc (some (.ref C)) := ⟨_, KX _ _ hcell, rfl⟩
  have one : ∀ {y c}, ([("__class__", cc)] : List (Str × Addr)).lookup y = some c → y = "__class__" ∧ c = cc := fun {y c} h => by
    rw [List.lookup_cons] at h
    by_cases hy : y = "__class__"
    · subst hy
      simp at h
      exact ⟨rfl, h.symm⟩
    · rw [beq_eq_false_iff_ne.mpr hy] at h
      simp at h
  have CA : CellsAt [("__class__", cc)] ["__class__"] [some (.ref C)] s.heap H := by
    refine ⟨rfl, fun y c h => ?_, fun x y c h1 h2 => ?_, fun i y h => ?_⟩
    · obtain ⟨_, rfl⟩ := one h
      exact ⟨(e0.bs _ _ (e0.mod.kin _ _ hcell)).2, _, hcellH⟩
    · rw [(one h1).1, (one h2).1]
    · match i, h with
      | 0, h =>
        cases h
        exact ⟨cc, by simp, fun v hv => by cases hv; exact ⟨.ref C, rfl, hcellH⟩⟩
      | n + 1, h => simp at h
  have hu0 : us[0]? = some (.ref a) := by
    obtain ⟨u, hu, rv⟩ := r.get hv0
    obtain rfl : u = Value.ref a := rv
    exact hu
  have ndP : ps.Nodup := by
    have q := S.nd.sublist (List.take_sublist (ps.length + 1) N)
    rw [show N.take (ps.length + 1) = ps ++ ([("__class__" : Str)] : List Str) from S.pre] at q
    exact (List.nodup_append.mp q).1
  refine PySem.ks_codeAny_call_defAt (binds := ps.zip us) hr.depth (KX _ _ lk) rfl lim (PySem.W.codeRec_of KX hcd) rfl hb S.nocell (fun ⟨n, v⟩ hy => S.par n (List.of_mem_zip hy).1) (fun h₁ hns kp => ?_) S.co S.gen S.kind
  have I : Inv (ncx CX0 P w K mg base N ⟨"__init__", qual, params, xBody e es rest p0 p1 ap cp ep, scope, [("__class__", cc)], cda⟩ f A outer s H E) [] (startF N vs [some (.ref C)]) H { s with heap := h₁, toks := s.toks + (ps.zip us).length } := inv_startN S hr.hd e0 hl r CA hns kp
  have hkc : scope.names.lookup ("__class__" : Str) = some .free := S.frk _ (by simp)
  have hka : scope.names.lookup ar.arg = some .local := S.par _ (List.mem_of_getElem? hps)
  have hself : (ps.zip us).reverse.lookup ar.arg = some (.ref a) := zip_look ndP hps hu0
  have KX1 : K.In h₁ := KX.keeps kp
  obtain ⟨oD, hD1, hD2⟩ : ∃ oD, h₁.get? C = some oD ∧ oD.data = .cls cdC := by
    unfold PySem.W.clsIn at hC
    split at hC
    · rename_i c d cd' sl ho
      cases hC
      exact ⟨_, KX1 _ _ ho, rfl⟩
    · cases hC
  obtain ⟨t1, hx⟩ := exo_at I.hok hex
  have hxC : a ≠ C := fun z => by
    rw [z, hD1] at hx
    cases hx
    cases hD2
  obtain ⟨mb, hb1, hb2⟩ := I.mod.blt
  refine PySem.ks_wpAt_execs_cons (PySem.ks_wpAt_Expr_any (PySem.ks_wpAt_MethodCall (pl := pl) (PySem.ks_wpAt_super_base hks hkc (by decide) rfl (KX1 _ _ lk) rfl har rfl (KX1 _ _ hcode) rfl hvs hfile htop ?_) (hev _)) (hi _) (hsw _))
  refine PySem.W.ks_loadName_global S.kind hks (Calls.loadGlobal_builtin (e0.mod.glob.keeps I.bk) hsup (hb1.keeps I.bk) ((hb2 _ (by decide)).trans (show bootBuiltins "super" = some (.type "super") by kernel_rfl)) ⟨rfl, ?_⟩)
  refine wpAny_loadName_free S.kind hkc rfl ⟨_, KX1 _ _ hcell, rfl⟩ ?_
  refine wpAny_loadName_local S.kind hka hns hself ?_
  refine PySem.ks_wpAny_isType_cls hD1 hD2 ⟨rfl, ?_⟩
  refine PySem.ks_wpAny_call_super hD1 hD2 hx rfl (fun c e => nomatch e) (PySem.W.looks_mroIn KX1 hsub) (fun h₂ eso k2 => ?_)
  have KX2 : K.In h₂ := KX1.keeps k2
  have hx2 := k2 _ _ hx
  have IA : PySem.W.InstAt h₂ a _ C none := ⟨hx2, rfl, rfl, trivial⟩
  refine PySem.W.kxs_getMethod PySem.W.kxs_ValueError eso (PySem.W.looks_opaque KX2 ho) (l₀ := cdC.mro) (fun A Q E s k q => wpAny_bind ((PySem.W.looks_clsIn KX2 hC) A _ E s k (wpAny_pure q))) rfl KX2 (by unfold PySem.W.ks_superIn at hm; rw [hC] at hm; exact hm) (IA.type.andThen (PySem.W.looks_subIn KX2 hB)) hxC (by decide) ?_
  have k3 : ∀ b o, h₁.get? b = some o → (h₂.push (PySem.W.kxs_mw "ValueError.__init__" a)).get? b = some o := fun b o e => Heap.get?_push_of_some _ (k2 b o e)
  have sz : h₁.objs.size ≤ h₂.objs.size := Nat.le_of_lt (Heap.lt_size eso)
  have I3 := I.kept (t' := s.toks + (ps.zip us).length + 1) k3
  have hmw : (h₂.push (PySem.W.kxs_mw "ValueError.__init__" a)).get? h₂.objs.size = some (PySem.W.kxs_mw "ValueError.__init__" a) := Heap.get?_push_at rfl rfl
  have pin : ∀ p ∈ ([] : List (Addr × Obj)) ++ [(h₂.objs.size, PySem.W.kxs_mw "ValueError.__init__" a)], (h₂.push (PySem.W.kxs_mw "ValueError.__init__" a)).get? p.1 = some p.2 ∧ H p.1 = none ∧ p.1 ≠ s.heap.objs.size ∧ p.1 ∉ frs outer ∧ ∀ v, p.2.data ≠ .cell v := fun p hp => by
    simp only [List.nil_append, List.mem_singleton] at hp
    subst hp
    have hlt : s.heap.objs.size < h₁.objs.size := hns.lt
    exact ⟨hmw, I.hok.fresh sz, Nat.ne_of_gt (Nat.lt_of_lt_of_le hlt sz), fun z => absurd (I.nofs (a := h₂.objs.size) sz z) (by simp), fun v z => by cases z⟩
  have I3p : Inv (ncx CX0 P w K mg base N ⟨"__init__", qual, params, xBody e es rest p0 p1 ap cp ep, scope, [("__class__", cc)], cda⟩ f A outer s H E) [(h₂.objs.size, PySem.W.kxs_mw "ValueError.__init__" a)] (startF N vs [some (.ref C)]) H { s with heap := h₂.push (PySem.W.kxs_mw "ValueError.__init__" a), toks := s.toks + (ps.zip us).length + 1 } :=
    ⟨I3.ok, I3.os, I3.bare, I3.base, I3.loc, I3.cell, I3.free, I3.freeC, pin, I3.hok, I3.len⟩
  have run := hpa.run cp _ _ _ H _ I3p hq
  show wpAny _ _ (callWith cp (.ref h₂.objs.size) [] (backTo cp (starEach (e :: es) (PySem.W.ksEnv qual scope s.heap.objs.size f (.ref cda) cc))) []) _ _ _
  have run' : wpAny (model P w) (A.deeper (PySem.W.ksEnv qual scope s.heap.objs.size f (.ref cda) cc)) (spliced (backTo cp (starEach (e :: es) (PySem.W.ksEnv qual scope s.heap.objs.size f (.ref cda) cc)))) _ _ _ := run
  rw [hstar] at run' ⊢
  refine PySem.W.kxs_callWith (i := "ValueError.__init__") (x := a) (by show (false || (backTo cp (starEach es _)).any (·.1)) = false; rw [hpl]; rfl) (Calls.evalArgs_plain (thn run' fun us2 s3 h3 => ?_))
  obtain ⟨ws, H1, I4, r4, hz, he1, hq2⟩ := h3
  have hmw4 := (I4.pin _ (List.mem_append_right _ (List.mem_singleton.mpr rfl))).1
  refine ⟨hmw4, ?_⟩
  have hlen : us2.length ≤ sizeLine := by
    rw [← Paired.length r4, sizeLine_eq]
    omega
  refine mw_init T I4 he1 hmw4 hlen (fun s' J => ?_)
  have J0 : Inv (ncx CX0 P w K mg base N ⟨"__init__", qual, params, xBody e es rest p0 p1 ap cp ep, scope, [("__class__", cc)], cda⟩ f A outer s H E) [] (startF N vs [some (.ref C)]) H1 s' :=
    ⟨J.ok, J.os, J.bare, J.base, J.loc, J.cell, J.free, J.freeC, fun p hp => absurd (show p ∈ ([] : List (Addr × Obj)) ++ [] from hp) (by simp), J.hok, J.len⟩
  refine wpAt_of_wpAny (wpAny_mono (hpss.run [] s' _ H1 _ J0 hq2) (fun fl s'' hs => ?_) fun e s'' hs => hs)
  have fin : ∀ {σ' : L2.St} {H' : Hp} {v : V} {u : Value}, Inv (ncx CX0 P w K mg base N ⟨"__init__", qual, params, xBody e es rest p0 p1 ap cp ep, scope, [("__class__", cc)], cda⟩ f A outer s H E) [] σ' H' s'' → L2.RelV v u → Q v H' → CE outer P w H s Q u s'' :=
    fun {σ' H' v u} J rv q => ⟨v, H', J.os, J.bare, J.base, J.hok, rv, q⟩
  cases fl with
  | ret u =>
    obtain ⟨v, σ', H', J, rv, q⟩ := hs
    exact fin J rv q
  | next =>
    obtain ⟨σ', H', J, q⟩ := hs
    exact fin (v := V.non) (u := Value.none) J rfl q
  | brk =>
    obtain ⟨_, _, _, q⟩ := hs
    exact False.elim q
  | cont =>
    obtain ⟨_, _, _, q⟩ := hs
    exact False.elim q
end
end DS
namespace DS
open PySem L2 PySem.Spec PyProof.Rows LamX NdefX
/-! ### an own exception with one field -/
/-- __init__(self, f): super().__init__(f); self.f = f -/
def spX1 (C : Addr) (f : Str) : Sp := fun vs H Q _ => ∃ (a : Addr) (v : V), vs = [.ref a, v] ∧ H a = some (exo a C none) ∧ ∀ dx, H dx = none → dx ≠ a → Q .non (upd (upd H dx (exd dx [(f, v)])) a (exo a C (some dx)))
/-- what the head has left of such a class -/
structure XOne (P : Program) (w : World) (K : PySem.W.Frag) (mg : Str → Option Value) (C f : Addr) (fd : FuncData) (st : Stmt) (qual fld : Str) : Prop where
  fn : ∃ oc od osl kV doc pm an cda ct cc ccl cdd ccs vsC file tf cl cld csl cdC, fd = PySem.W.ksFn "__init__" qual (defArgs st) (defBody st) (defScope st) .none kV doc pm an (.ref cda) ct cc ∧
    K.lookup f = some ⟨oc, od, .func (PySem.W.ksFn "__init__" qual (defArgs st) (defBody st) (defScope st) .none kV doc pm an (.ref cda) ct cc), osl⟩ ∧ PySem.W.codeIn K (.ref cda) qual = true ∧
    K.lookup cda = some ⟨ccl, cdd, .fields vsC, ccs⟩ ∧ vsC[2]? = some (.str file tf) ∧ ((P.main.file : Str) == file) = true ∧ K.lookup cc = some ⟨cl, cld, .cell (some (.ref C)), csl⟩ ∧ PySem.W.clsIn K C = some cdC
  sub : PySem.W.mroIn K C (.ref C) = some true
  sup : mg "super" = none
  top : (P.main.scope.names.lookup ("super" : Str)).isSome = false
  any : PySem.W.nsIn K cStatics "thirdparty.any" = some none
  ini : PySem.W.ks_superIn K C C "__init__" = some (some (.builtin "ValueError.__init__"))
  ve : PySem.W.subIn K (.ref C) (.type "ValueError") = some true
  oex : OexC K C
  nof : PySem.W.findIn K (.ref C) fld = some none
  iC : PySem.W.findIn K (.ref C) "__init__" = some (some (.ref f))
  tI : PySem.W.typeIn K (.ref f) = some (.type "function")
/-- E takes a BadValue of v, raised at H -/
def Bad (C : Addr) (f : Str) (v : V) (E : XK) (H : Hp) : Prop := ∀ d H', Same H H' → H' d = some (.xd [(f, v)]) → E (.ref C) (some d) H'
theorem Bad.same {C : Addr} {f : Str} {v : V} {E : XK} {H H1 : Hp} (b : Bad C f v E H) (e : Same H H1) : Bad C f v E H1 := fun d H' s q => b d H' (e.trans s) q
/-- what is read by name -/
theorem w_mkX1 {C : Addr} {f : Str} {te : TE} {σ : L2.St} {H : Hp} {Q : XK} {v : V} (h : ∀ R : VK, R v H → te σ H R) (b : Bad C f v Q H) : tMkO C (spX1 C f) [] (tCons te tNil) σ H Q := by
  refine h _ ?_
  refine ⟨Nat.le_of_ble_eq_true rfl, fun a na => ⟨a, v, rfl, upd_same, fun dx nd ne => ⟨rfl, dx, [(f, v)], upd_same, ?_, ?_, ?_⟩⟩⟩
  · rw [upd_ne ne, upd_same]
  · rw [upd_ne ne] at nd
    exact nd
  · have nd' : H dx = none := by
      rw [upd_ne ne] at nd
      exact nd
    refine b dx _ (fun b o e => ?_) upd_same
    have n1 : b ≠ dx := ne_of_none e nd'
    have n2 : b ≠ a := ne_of_none e na
    rw [upd_ne n1, del_ne n2, upd_ne n2, upd_ne n1, upd_ne n2]
    exact e
theorem w_raise {t : L2.St → Hp → XK → Prop} {W : WX} {D : Ends} {σ : L2.St} {H : Hp} (h : t σ H fun cls d H' => W cls d σ H') : (fun (_ : Ends) (σ : L2.St) (H : Hp) => t σ H fun cls d H' => W cls d σ H') D σ H := h
end DS
/-! values as trees: the heap is split into a frozen part F, which only grows, and owned objects -/
namespace VL
open PySem L2 DS
inductive Tr where
  | non | bl (b : Bool) | int (i : Int) | str (x : Str)
  | tup (xs : List Tr) | lst (xs : List Tr) | dct (kvs : List (Key × Tr))
  | ins (C : Addr) (fs : List (Str × Tr))
  | opq (v : V) | pen | scr (ns : List Int)
inductive FO where
  | ob (o : HO) | pen
abbrev FH := Addr → Option FO
def hp (F : FH) : Hp := fun a => match F a with
  | some (.ob o) => some o
  | _ => none
theorem hp_eq {F : FH} {a : Addr} {o : HO} : hp F a = some o ↔ F a = some (.ob o) := by
  unfold hp
  split
  · rename_i o' e
    rw [e]
    constructor
    · intro z; cases z; rfl
    · intro z; cases z; rfl
  · rename_i n
    constructor
    · intro z; cases z
    · intro z; exact absurd z (n o)
def le (F F' : FH) : Prop := ∀ a o, F a = some o → F' a = some o
theorem le.refl (F : FH) : le F F := fun _ _ h => h
theorem le.trans {F F1 F2 : FH} (a : le F F1) (b : le F1 F2) : le F F2 := fun c o h => b c o (a c o h)
theorem le.hp {F F' : FH} (l : le F F') : Same (VL.hp F) (VL.hp F') := fun a o e => hp_eq.mpr (l a _ (hp_eq.mp e))
structure Gb where
  K : PySem.W.Frag
  TT : List (Addr × Str)
  pk : Str × Str × Str
  pz : Bool
/-- what is asked of an own class -/
structure OwnC (K : PySem.W.Frag) (C : Addr) : Prop where
  cl : Cls K C
  ha : PySem.W.findIn K (.ref C) "__class__" = some (some (.builtin "object.__class__"))
  hn : PySem.W.specialIn K (.builtin "object.__class__") "__get__" = some (some (.builtin "getset_descriptor.__get__"))
  htk : PySem.W.takesIn K (.builtin "object.__class__") = some true
  hm : PySem.W.mroIn K C (.type "object") = some true
  ki : PySem.W.kitOne K (.ref C) (.type "int") = some false
  kb : PySem.W.kitOne K (.ref C) (.type "bool") = some false
  ks : PySem.W.kitOne K (.ref C) (.type "str") = some false
  kl : PySem.W.kitOne K (.ref C) (.type "list") = some false
  kt : PySem.W.kitOne K (.ref C) (.type "tuple") = some false
  kd : PySem.W.kitOne K (.ref C) (.type "dict") = some false
mutual
inductive Rep (g : Gb) (F : FH) : V → Tr → Prop
  | non : Rep g F .non .non
  | bl (b : Bool) : Rep g F (.bl b) (.bl b)
  | int (i : Int) : Rep g F (.int i) (.int i)
  | str (x : Str) : Rep g F (.str x) (.str x)
  | tup {a : Addr} {vs : List V} {ts : List Tr} (h : SqT g.K (hp F) a vs) (r : Reps g F vs ts) : Rep g F (.ref a) (.tup ts)
  | lst {a : Addr} {vs : List V} {ts : List Tr} (h : F a = some (.ob (.lst vs))) (r : Reps g F vs ts) : Rep g F (.ref a) (.lst ts)
  | dct {a : Addr} {kvs : List (Key × V)} {kts : List (Key × Tr)} (h : F a = some (.ob (.dK kvs))) (r : RepK g F kvs kts) : Rep g F (.ref a) (.dct kts)
  | ins {a C dx : Addr} {fs : List (Str × V)} {fts : List (Str × Tr)} (h : F a = some (.ob (.ins C dx fs))) (c : OwnC g.K C) (r : RepF g F fs fts) : Rep g F (.ref a) (.ins C fts)
  | opq (v : V) : Rep g F v (.opq v)
  | pen {a : Addr} (h : F a = some .pen) : Rep g F (.ref a) .pen
  | scr {a : Addr} {ns : List Int} (h : SqL g.K (hp F) a (ns.map V.int)) : Rep g F (.ref a) (.scr ns)
inductive Reps (g : Gb) (F : FH) : List V → List Tr → Prop
  | nil : Reps g F [] []
  | cons {v : V} {t : Tr} {vs : List V} {ts : List Tr} (r : Rep g F v t) (rs : Reps g F vs ts) : Reps g F (v :: vs) (t :: ts)
inductive RepF (g : Gb) (F : FH) : List (Str × V) → List (Str × Tr) → Prop
  | nil : RepF g F [] []
  | cons {x : Str} {v : V} {t : Tr} {vs : List (Str × V)} {ts : List (Str × Tr)} (r : Rep g F v t) (rs : RepF g F vs ts) : RepF g F ((x, v) :: vs) ((x, t) :: ts)
inductive RepK (g : Gb) (F : FH) : List (Key × V) → List (Key × Tr) → Prop
  | nil : RepK g F [] []
  | cons {x : Key} {v : V} {t : Tr} {vs : List (Key × V)} {ts : List (Key × Tr)} (r : Rep g F v t) (rs : RepK g F vs ts) : RepK g F ((x, v) :: vs) ((x, t) :: ts)
end
theorem sqT_same {K : PySem.W.Frag} {H H' : Hp} {a : Addr} {vs : List V} (e : Same H H') (q : SqT K H a vs) : SqT K H' a vs := by
  rcases q with (q | ⟨o, q⟩) | q
  · exact .inl (.inl (e _ _ q))
  · exact .inl (.inr ⟨o, e _ _ q⟩)
  · exact .inr q
theorem sqL_same {K : PySem.W.Frag} {H H' : Hp} {a : Addr} {vs : List V} (e : Same H H') (q : SqL K H a vs) : SqL K H' a vs := by
  rcases q with (q | ⟨o, q⟩) | q
  · exact .inl (.inl (e _ _ q))
  · exact .inl (.inr ⟨o, e _ _ q⟩)
  · exact .inr q
mutual
theorem Rep.mono {g : Gb} {F F' : FH} (l : le F F') : ∀ {v : V} {t : Tr}, Rep g F v t → Rep g F' v t
  | _, _, .non => .non
  | _, _, .bl b => .bl b
  | _, _, .int i => .int i
  | _, _, .str x => .str x
  | _, _, .tup h r => .tup (sqT_same l.hp h) (Reps.mono l r)
  | _, _, .lst h r => .lst (l _ _ h) (Reps.mono l r)
  | _, _, .dct h r => .dct (l _ _ h) (RepK.mono l r)
  | _, _, .ins h c r => .ins (l _ _ h) c (RepF.mono l r)
  | _, _, .opq v => .opq v
  | _, _, .pen h => .pen (l _ _ h)
  | _, _, .scr h => .scr (sqL_same l.hp h)
theorem Reps.mono {g : Gb} {F F' : FH} (l : le F F') : ∀ {vs : List V} {ts : List Tr}, Reps g F vs ts → Reps g F' vs ts
  | _, _, .nil => .nil
  | _, _, .cons r rs => .cons (Rep.mono l r) (Reps.mono l rs)
theorem RepF.mono {g : Gb} {F F' : FH} (l : le F F') : ∀ {vs : List (Str × V)} {ts : List (Str × Tr)}, RepF g F vs ts → RepF g F' vs ts
  | _, _, .nil => .nil
  | _, _, .cons r rs => .cons (Rep.mono l r) (RepF.mono l rs)
theorem RepK.mono {g : Gb} {F F' : FH} (l : le F F') : ∀ {vs : List (Key × V)} {ts : List (Key × Tr)}, RepK g F vs ts → RepK g F' vs ts
  | _, _, .nil => .nil
  | _, _, .cons r rs => .cons (Rep.mono l r) (RepK.mono l rs)
end
theorem Reps.length {g : Gb} {F : FH} : ∀ {vs : List V} {ts : List Tr}, Reps g F vs ts → vs.length = ts.length
  | _, _, .nil => rfl
  | _, _, .cons _ rs => congrArg (· + 1) (Reps.length rs)
theorem Reps.append {g : Gb} {F : FH} : ∀ {vs us : List V} {ts ss : List Tr}, Reps g F vs ts → Reps g F us ss → Reps g F (vs ++ us) (ts ++ ss)
  | _, _, _, _, .nil, b => b
  | _, _, _, _, .cons r rs, b => .cons r (Reps.append rs b)
theorem Reps.get {g : Gb} {F : FH} : ∀ {vs : List V} {ts : List Tr} (i : Nat) {t : Tr}, Reps g F vs ts → ts[i]? = some t → ∃ v, vs[i]? = some v ∧ Rep g F v t
  | _, _, 0, _, .cons r _, e => by cases e; exact ⟨_, rfl, r⟩
  | _, _, i + 1, t, .cons _ rs, e => by
    obtain ⟨v, h1, h2⟩ := Reps.get i rs (by simpa using e)
    exact ⟨v, by simpa using h1, h2⟩
theorem Reps.get' {g : Gb} {F : FH} : ∀ {vs : List V} {ts : List Tr} (i : Nat) {v : V}, Reps g F vs ts → vs[i]? = some v → ∃ t, ts[i]? = some t ∧ Rep g F v t
  | _, _, 0, _, .cons r _, e => by cases e; exact ⟨_, rfl, r⟩
  | _, _, i + 1, v, .cons _ rs, e => by
    obtain ⟨t, h1, h2⟩ := Reps.get' i rs (by simpa using e)
    exact ⟨t, by simpa using h1, h2⟩
theorem Reps.drop {g : Gb} {F : FH} : ∀ {vs : List V} {ts : List Tr} (i : Nat), Reps g F vs ts → Reps g F (vs.drop i) (ts.drop i)
  | _, _, 0, r => r
  | _, _, _ + 1, .nil => .nil
  | _, _, i + 1, .cons _ rs => Reps.drop i rs
theorem Reps.take {g : Gb} {F : FH} : ∀ {vs : List V} {ts : List Tr} (i : Nat), Reps g F vs ts → Reps g F (vs.take i) (ts.take i)
  | _, _, 0, _ => .nil
  | _, _, _ + 1, .nil => .nil
  | _, _, i + 1, .cons r rs => .cons r (Reps.take i rs)
theorem Reps.set {g : Gb} {F : FH} {v : V} {t : Tr} (q : Rep g F v t) : ∀ {vs : List V} {ts : List Tr} (i : Nat), Reps g F vs ts → Reps g F (vs.set i v) (ts.set i t)
  | _, _, _, .nil => .nil
  | _, _, 0, .cons _ rs => .cons q rs
  | _, _, i + 1, .cons r rs => .cons r (Reps.set q i rs)
theorem Reps.reverse {g : Gb} {F : FH} : ∀ {vs : List V} {ts : List Tr}, Reps g F vs ts → Reps g F vs.reverse ts.reverse
  | _, _, .nil => .nil
  | _, _, .cons r rs => by
    rw [List.reverse_cons, List.reverse_cons]
    exact (Reps.reverse rs).append (.cons r .nil)
theorem Reps.erase {g : Gb} {F : FH} : ∀ {vs : List V} {ts : List Tr} (i : Nat), Reps g F vs ts → Reps g F (vs.eraseIdx i) (ts.eraseIdx i)
  | _, _, _, .nil => .nil
  | _, _, 0, .cons _ rs => rs
  | _, _, i + 1, .cons r rs => .cons r (Reps.erase i rs)
theorem Reps.ints {g : Gb} {F : FH} : ∀ {vs : List V} {ns : List Int}, Reps g F vs (ns.map Tr.int) → vs = ns.map V.int
  | [], [], _ => rfl
  | _, n :: ns, h => by
    cases h with
    | cons r rs => cases r with | int => rw [Reps.ints rs]; rfl
theorem Reps.of_ints {g : Gb} {F : FH} : ∀ (ns : List Int), Reps g F (ns.map V.int) (ns.map Tr.int)
  | [] => .nil
  | n :: ns => .cons (.int n) (Reps.of_ints ns)
theorem Reps.strs {g : Gb} {F : FH} : ∀ {vs : List V} {ns : List Str}, Reps g F vs (ns.map Tr.str) → vs = ns.map V.str
  | [], [], _ => rfl
  | _, n :: ns, h => by
    cases h with
    | cons r rs => cases r with | str => rw [Reps.strs rs]; rfl
theorem Reps.bools {g : Gb} {F : FH} : ∀ {vs : List V} {ns : List Bool}, Reps g F vs (ns.map Tr.bl) → vs = ns.map V.bl
  | [], [], _ => rfl
  | _, n :: ns, h => by
    cases h with
    | cons r rs => cases r with | bl => rw [Reps.bools rs]; rfl
theorem RepF.lookup {g : Gb} {F : FH} {f : Str} : ∀ {vs : List (Str × V)} {ts : List (Str × Tr)} {t : Tr}, RepF g F vs ts → ts.lookup f = some t → ∃ v, vs.lookup f = some v ∧ Rep g F v t
  | _, _, _, .nil, e => by cases e
  | _, _, t, .cons (x := x) r rs, e => by
    rw [List.lookup_cons] at e ⊢
    cases hx : (f == x) with
    | true => rw [hx] at e; cases e; exact ⟨_, rfl, r⟩
    | false => rw [hx] at e; exact RepF.lookup rs e
theorem RepF.lookup_none {g : Gb} {F : FH} {f : Str} : ∀ {vs : List (Str × V)} {ts : List (Str × Tr)}, RepF g F vs ts → ts.lookup f = none → vs.lookup f = none
  | _, _, .nil, _ => rfl
  | _, _, .cons (x := x) r rs, e => by
    rw [List.lookup_cons] at e ⊢
    cases hx : (f == x) with
    | true => rw [hx] at e; cases e
    | false => rw [hx] at e; exact RepF.lookup_none rs e
theorem RepF.length {g : Gb} {F : FH} : ∀ {vs : List (Str × V)} {ts : List (Str × Tr)}, RepF g F vs ts → vs.length = ts.length
  | _, _, .nil => rfl
  | _, _, .cons _ rs => congrArg (· + 1) (RepF.length rs)
/-- putF at trees -/
def putT (f : Str) (t : Tr) : List (Str × Tr) → List (Str × Tr)
  | [] => [(f, t)]
  | (x, u) :: r => if x = f then (x, t) :: r else (x, u) :: putT f t r
theorem RepF.put {g : Gb} {F : FH} {f : Str} {v : V} {t : Tr} (q : Rep g F v t) : ∀ {vs : List (Str × V)} {ts : List (Str × Tr)}, RepF g F vs ts → RepF g F (putF f v vs) (putT f t ts)
  | _, _, .nil => .cons q .nil
  | _, _, .cons (x := x) (v := u) (t := s) (vs := vs) (ts := ts) r rs => by
    show RepF g F (if x = f then (x, v) :: vs else (x, u) :: putF f v vs) (if x = f then (x, t) :: ts else (x, s) :: putT f t ts)
    by_cases h : x = f
    · subst h
      rw [if_pos rfl, if_pos rfl]
      exact .cons q rs
    · rw [if_neg h, if_neg h]
      exact .cons r (RepF.put q rs)
/-! ### pens -/
def pend (pk : Str × Str × Str) (c : Addr) (a l : Int) : List (Key × V) := [(Sum.inr pk.1, .ref c), (Sum.inr pk.2.1, .int a), (Sum.inr pk.2.2, .int l)]
structure PenAt (g : Gb) (F : FH) (H : Hp) (d : Addr) (n : Nat) : Prop where
  ex : ∃ (c : Addr) (ns : List Int) (a l : Int), H d = some (.dK (pend g.pk c a l)) ∧ F c = some (.ob (.lst (ns.map V.int))) ∧ 0 ≤ a ∧ a ≤ n ∧ 0 ≤ l ∧ ns.length ≤ 63 ∧ (g.pz = true → 0 < ns.length)
/-- without the tables of code objects -/
def nt (H : Hp) : Hp := fun a => match H a with
  | some (.tbl _) => none
  | o => o
theorem nt_none {H : Hp} {a : Addr} (e : H a = none) : nt H a = none := by unfold nt; rw [e]
theorem nt_some {H : Hp} {a : Addr} {o : HO} (e : H a = some o) (n : ∀ ps, o ≠ .tbl ps) : nt H a = some o := by
  unfold nt
  rw [e]
  cases o with
  | tbl ps => exact absurd rfl (n ps)
  | _ => rfl
theorem nt_get {H : Hp} {a : Addr} {o : HO} (e : nt H a = some o) : H a = some o ∧ ∀ ps, o ≠ .tbl ps := by
  unfold nt at e
  cases h : H a with
  | none => rw [h] at e; cases e
  | some u =>
    rw [h] at e
    cases u with
    | tbl ps => cases e
    | _ => cases e; exact ⟨rfl, fun _ z => nomatch z⟩
theorem nt_upd {H : Hp} {p a : Addr} {o : HO} (q : a ≠ p) : nt (upd H p o) a = nt H a := by
  unfold nt
  rw [upd_ne q]
structure Sub (g : Gb) (n : Nat) (F : FH) (H : Hp) : Prop where
  ob : Same (hp F) H
  pen : ∀ a, F a = some .pen → PenAt g F H a n
  tab : LamX.Tabs g.TT H
  nt : ∀ a ps, F a ≠ some (.ob (.tbl ps))
theorem Sub.at_ {g : Gb} {n : Nat} {F : FH} {H : Hp} {a : Addr} {o : HO} (s : Sub g n F H) (e : F a = some (.ob o)) : H a = some o := s.ob _ _ (hp_eq.mpr e)
theorem Sub.free {g : Gb} {n : Nat} {F : FH} {H : Hp} {a : Addr} (s : Sub g n F H) (e : H a = none) : F a = none := by
  cases h : F a with
  | none => rfl
  | some o =>
    cases o with
    | ob o => rw [s.at_ h] at e; cases e
    | pen =>
      obtain ⟨c, ns, k, l, h1, _⟩ := (s.pen a h).ex
      rw [h1] at e
      cases e
theorem Sub.more {g : Gb} {n m : Nat} {F : FH} {H : Hp} (s : Sub g n F H) (h : n ≤ m) : Sub g m F H := ⟨s.ob, fun a e => by
  obtain ⟨c, ns, k, l, h1, h2, h3, h4, h5⟩ := (s.pen a e).ex
  exact ⟨c, ns, k, l, h1, h2, h3, by omega, h5⟩, s.tab, s.nt⟩
/-- what a piece of code may do -/
structure Fr (F : FH) (H : Hp) (F' : FH) (H' : Hp) : Prop where
  le : VL.le F F'
  fresh : ∀ a, F' a ≠ none → F a ≠ none ∨ nt H a = none
  keep : ∀ a o, H a = some o → F a ≠ some .pen → (∀ ps, o ≠ .tbl ps) → H' a = some o
  there : ∀ a, nt H a ≠ none → nt H' a ≠ none
theorem Fr.refl (F : FH) (H : Hp) : Fr F H F H := ⟨le.refl _, fun _ h => .inl h, fun _ _ h _ _ => h, fun _ h => h⟩
theorem Fr.trans {F F1 F2 : FH} {H H1 H2 : Hp} (a : Fr F H F1 H1) (b : Fr F1 H1 F2 H2) : Fr F H F2 H2 := by
  refine ⟨a.le.trans b.le, fun x h => ?_, fun x o h np no => ?_, fun x h => b.there x (a.there x h)⟩
  · rcases b.fresh x h with q | q
    · exact a.fresh x q
    · right
      cases e : VL.nt H x with
      | none => rfl
      | some o => exact absurd q (a.there x (by rw [e]; intro z; cases z))
  · refine b.keep x o (a.keep x o h np no) (fun z => ?_) no
    rcases a.fresh x (by rw [z]; intro w; cases w) with q | q
    · cases e : F x with
      | none => exact q e
      | some u =>
        have := a.le x u e
        rw [z] at this
        cases this
        exact np e
    · rw [nt_some h no] at q
      cases q
def updF (F : FH) (a : Addr) (o : FO) : FH := fun b => if b = a then some o else F b
theorem updF_same {F : FH} {a : Addr} {o : FO} : updF F a o a = some o := by unfold updF; rw [if_pos rfl]
theorem updF_ne {F : FH} {a b : Addr} {o : FO} (h : b ≠ a) : updF F a o b = F b := by unfold updF; rw [if_neg h]
theorem le_updF {F : FH} {a : Addr} {o : FO} (h : F a = none) : le F (updF F a o) := fun b u e => by
  have n : b ≠ a := fun z => by rw [z, h] at e; cases e
  rw [updF_ne n]
  exact e
/-- a new object is frozen -/
theorem alloc {g : Gb} {n : Nat} {F : FH} {H : Hp} {p : Addr} {o : HO} (s : Sub g n F H) (e : H p = none) (no : ∀ ps, o ≠ .tbl ps := by intro _ z; cases z) : Fr F H (updF F p (.ob o)) (upd H p o) ∧ Sub g n (updF F p (.ob o)) (upd H p o) := by
  have f := s.free e
  refine ⟨⟨le_updF f, fun a h => ?_, fun a u h _ _ => ?_, fun a h => ?_⟩, ⟨fun a u h => ?_, fun a h => ?_, s.tab.ext (same_upd e), fun a ps h => ?_⟩⟩
  · by_cases q : a = p
    · right; rw [q]; exact nt_none e
    · left; rw [updF_ne q] at h; exact h
  · exact same_upd e a u h
  · by_cases q : a = p
    · rw [q, nt_none e] at h; exact absurd rfl h
    · rw [nt_upd q]; exact h
  · have h' := hp_eq.mp h
    by_cases q : a = p
    · subst q
      rw [updF_same] at h'
      cases h'
      exact upd_same
    · rw [updF_ne q] at h'
      rw [upd_ne q]
      exact s.at_ h'
  · have q : a ≠ p := fun z => by subst z; rw [updF_same] at h; cases h
    rw [updF_ne q] at h
    obtain ⟨c, ns, k, l, h1, h2, h3⟩ := (s.pen a h).ex
    refine ⟨c, ns, k, l, ?_, ?_, h3⟩
    · rw [upd_ne q]; exact h1
    · exact le_updF f c _ h2
  · by_cases q : a = p
    · subst q
      rw [updF_same] at h
      cases h
      exact no _ rfl
    · rw [updF_ne q] at h
      exact s.nt a ps h
/-- a new object, not frozen -/
theorem alloc0 {g : Gb} {n : Nat} {F : FH} {H : Hp} {p : Addr} {o : HO} (s : Sub g n F H) (e : H p = none) : Fr F H F (upd H p o) ∧ Sub g n F (upd H p o) := by
  refine ⟨⟨le.refl _, fun a h => .inl h, fun a u h _ _ => same_upd e a u h, fun a h => ?_⟩, ⟨fun a u h => ?_, fun a h => ?_, s.tab.ext (same_upd e), s.nt⟩⟩
  · by_cases q : a = p
    · rw [q, nt_none e] at h; exact absurd rfl h
    · rw [nt_upd q]; exact h
  · exact same_upd e _ _ (s.ob _ _ h)
  · obtain ⟨c, ns, k, l, h1, h2, h3⟩ := (s.pen a h).ex
    exact ⟨c, ns, k, l, same_upd e _ _ h1, h2, h3⟩
theorem sqL_sub {g : Gb} {n : Nat} {F : FH} {H : Hp} {a : Addr} {vs : List V} (s : Sub g n F H) (q : SqL g.K (hp F) a vs) : SqL g.K H a vs := sqL_same s.ob q
theorem sqT_sub {g : Gb} {n : Nat} {F : FH} {H : Hp} {a : Addr} {vs : List V} (s : Sub g n F H) (q : SqT g.K (hp F) a vs) : SqT g.K H a vs := sqT_same s.ob q
/-! ### slots -/
inductive Sl where
  | un | v (t : Tr) | ol (xs : List Tr) | oi (C a dx : Addr) (fs : List (Str × Tr)) | od (kvs : List (Key × Tr))
def isOwn : Sl → Bool
  | .un => false
  | .v _ => false
  | _ => true
def RelSl (g : Gb) (H0 : Hp) (F : FH) (H : Hp) : Sl → Option V → Prop
  | .un, _ => True
  | .v t, o => ∃ v, o = some v ∧ Rep g F v t
  | .ol xs, o => ∃ a vs, o = some (.ref a) ∧ H a = some (.lst vs) ∧ F a = none ∧ nt H0 a = none ∧ Reps g F vs xs
  | .oi C a dx fs, o => ∃ fvs, o = some (.ref a) ∧ H a = some (.ins C dx fvs) ∧ F a = none ∧ nt H0 a = none ∧ OwnC g.K C ∧ RepF g F fvs fs
  | .od kvs, o => ∃ a vs, o = some (.ref a) ∧ H a = some (.dK vs) ∧ F a = none ∧ nt H0 a = none ∧ RepK g F vs kvs
abbrev VQ := Tr → Nat → Prop
abbrev XQ := Addr → List (Str × Tr) → Nat → Prop
structure Cn where
  g : Gb
  F0 : FH
  H0 : Hp
  E : XK
  x : XQ
/-- the fields of an exception -/
def XAt (H : Hp) : Option Addr → List (Str × V) → Prop
  | some d, fvs => H d = some (.xd fvs) ∧ fvs ≠ []
  | none, fvs => fvs = []
structure Cn.Ok (Γ : Cn) : Prop where
  out : ∀ C d fvs fts n F H, Fr Γ.F0 Γ.H0 F H → Sub Γ.g n F H → XAt H d fvs → RepF Γ.g F fvs fts → Γ.x C fts n → Γ.E (.ref C) d H
structure Rel (Γ : Cn) (n : Nat) (ρ : List Sl) (F : FH) (σ : L2.St) (H : Hp) : Prop where
  ok : Γ.Ok
  fr : Fr Γ.F0 Γ.H0 F H
  sub : Sub Γ.g n F H
  len : ρ.length = σ.length
  sl : ∀ (i : Nat) s, ρ[i]? = some s → ∃ o, σ[i]? = some o ∧ RelSl Γ.g Γ.H0 F H s o
  dis : ∀ (i j : Nat) (a : Addr) s u, i ≠ j → ρ[i]? = some s → ρ[j]? = some u → isOwn s = true → isOwn u = true → σ[i]? = some (some (.ref a)) → σ[j]? = some (some (.ref a)) → False
theorem RelSl.go {g : Gb} {H0 : Hp} {F F' : FH} {H H' : Hp} (f : Fr F H F' H') : ∀ {s : Sl} {o : Option V}, RelSl g H0 F H s o → RelSl g H0 F' H' s o := by
  have own : ∀ {a : Addr} {u : HO}, H a = some u → F a = none → (∀ ps, u ≠ .tbl ps) → H' a = some u ∧ F' a = none := fun {a u} h1 h2 h3 => by
    refine ⟨f.keep a u h1 (by rw [h2]; intro z; cases z) h3, ?_⟩
    cases e : F' a with
    | none => rfl
    | some w =>
      rcases f.fresh a (by rw [e]; intro z; cases z) with q | q
      · exact absurd h2 q
      · rw [nt_some h1 h3] at q; cases q
  intro s o h
  cases s with
  | un => trivial
  | v t => obtain ⟨v, e, r⟩ := h; exact ⟨v, e, r.mono f.le⟩
  | ol xs =>
    obtain ⟨a, vs, e, h1, h2, h3, r⟩ := h
    obtain ⟨q1, q2⟩ := own h1 h2 (fun ps z => nomatch z)
    exact ⟨a, vs, e, q1, q2, h3, r.mono f.le⟩
  | oi C a dx fs =>
    obtain ⟨fvs, e, h1, h2, h3, c, r⟩ := h
    obtain ⟨q1, q2⟩ := own h1 h2 (fun ps z => nomatch z)
    exact ⟨fvs, e, q1, q2, h3, c, r.mono f.le⟩
  | od kvs =>
    obtain ⟨a, vs, e, h1, h2, h3, r⟩ := h
    obtain ⟨q1, q2⟩ := own h1 h2 (fun ps z => nomatch z)
    exact ⟨a, vs, e, q1, q2, h3, r.mono f.le⟩
theorem Rel.go {Γ : Cn} {n n' : Nat} {ρ : List Sl} {F F' : FH} {σ : L2.St} {H H' : Hp} (r : Rel Γ n ρ F σ H) (f : Fr F H F' H') (s : Sub Γ.g n' F' H') : Rel Γ n' ρ F' σ H' :=
  ⟨r.ok, r.fr.trans f, s, r.len, fun i u e => by
    obtain ⟨o, h1, h2⟩ := r.sl i u e
    exact ⟨o, h1, h2.go f⟩, r.dis⟩
theorem Rel.more {Γ : Cn} {n n' : Nat} {ρ : List Sl} {F : FH} {σ : L2.St} {H : Hp} (r : Rel Γ n ρ F σ H) (h : n ≤ n') : Rel Γ n' ρ F σ H := ⟨r.ok, r.fr, r.sub.more h, r.len, r.sl, r.dis⟩
/-- a slot gets a frozen value -/
theorem Rel.set {Γ : Cn} {n : Nat} {ρ : List Sl} {F : FH} {σ : L2.St} {H : Hp} (r : Rel Γ n ρ F σ H) {i : Nat} {v : V} {t : Tr} (q : Rep Γ.g F v t) : Rel Γ n (ρ.set i (.v t)) F (σ.set i (some v)) H := by
  refine ⟨r.ok, r.fr, r.sub, by simp [r.len], fun j s e => ?_, fun j k a s u ne e1 e2 o1 o2 s1 s2 => ?_⟩
  · by_cases h : j = i
    · subst h
      rw [List.getElem?_set] at e
      rw [List.getElem?_set]
      by_cases hl : j < ρ.length
      · rw [if_pos rfl, if_pos hl] at e
        rw [if_pos rfl, if_pos (by rw [← r.len]; exact hl)]
        cases e
        exact ⟨_, rfl, v, rfl, q⟩
      · rw [if_pos rfl, if_neg hl] at e
        cases e
    · rw [List.getElem?_set_ne (Ne.symm h)] at e
      rw [List.getElem?_set_ne (Ne.symm h)]
      exact r.sl j s e
  · have nj : j ≠ i := fun z => by
      subst z
      rw [List.getElem?_set] at e1
      split at e1
      · split at e1
        · cases e1; cases o1
        · cases e1
      · rename_i z; exact z rfl
    have nk : k ≠ i := fun z => by
      subst z
      rw [List.getElem?_set] at e2
      split at e2
      · split at e2
        · cases e2; cases o2
        · cases e2
      · rename_i z; exact z rfl
    rw [List.getElem?_set_ne (Ne.symm nj)] at e1 s1
    rw [List.getElem?_set_ne (Ne.symm nk)] at e2 s2
    exact r.dis j k a s u ne e1 e2 o1 o2 s1 s2
/-! ### readings at trees -/
abbrev RE := Nat → List Sl → VQ → Prop
abbrev RT := Nat → List Sl → (Bool → Nat → Prop) → Prop
abbrev RA := Nat → List Sl → (List Tr → Nat → Prop) → Prop
structure VEnds where
  nx : Nat → List Sl → Prop
  rt : Tr → Nat → Prop
  bk : Nat → List Sl → Prop := fun _ _ => False
  ct : Nat → List Sl → Prop := fun _ _ => False
abbrev RS := VEnds → Nat → List Sl → Prop
abbrev RG := Tr → Nat → List Sl → (Nat → List Sl → Prop) → Prop
abbrev RGs := List Tr → Nat → List Sl → (Nat → List Sl → Prop) → Prop
abbrev VR2 := Tr → Tr → Nat → VQ → Prop
abbrev VR1 := Tr → Nat → VQ → Prop
abbrev VRL := List Tr → Nat → VQ → Prop
/-- what is known behind an expression -/
def Then (g : Gb) (F : FH) (H : Hp) (Q : VQ) (Q' : VK) : Prop := ∀ v t n' F' H', Fr F H F' H' → Sub g n' F' H' → Rep g F' v t → Q t n' → Q' v H'
theorem Then.here {g : Gb} {F : FH} {H : Hp} {Q : VQ} {Q' : VK} {v : V} {t : Tr} {n : Nat} (k : Then g F H Q Q') (s : Sub g n F H) (r : Rep g F v t) (q : Q t n) : Q' v H := k v t n F H (Fr.refl _ _) s r q
theorem Then.go {g : Gb} {F F' : FH} {H H' : Hp} {Q : VQ} {Q' : VK} (k : Then g F H Q Q') (f : Fr F H F' H') : Then g F' H' Q Q' := fun v t n' F2 H2 f2 s r q => k v t n' F2 H2 (f.trans f2) s r q
def lE (Γ : Cn) (τ : RE) : TE := fun σ H Q' => ∃ ρ n F Q, Rel Γ n ρ F σ H ∧ τ n ρ Q ∧ Then Γ.g F H Q Q'
def ThenT (g : Gb) (F : FH) (H : Hp) (Q : Bool → Nat → Prop) (Q' : Bool → Hp → Prop) : Prop := ∀ b n' F' H', Fr F H F' H' → Sub g n' F' H' → Q b n' → Q' b H'
def lT (Γ : Cn) (τ : RT) : TT := fun σ H Q' => ∃ ρ n F Q, Rel Γ n ρ F σ H ∧ τ n ρ Q ∧ ThenT Γ.g F H Q Q'
def ThenA (g : Gb) (F : FH) (H : Hp) (Q : List Tr → Nat → Prop) (Q' : List V → Hp → Prop) : Prop := ∀ vs ts n' F' H', Fr F H F' H' → Sub g n' F' H' → Reps g F' vs ts → Q ts n' → Q' vs H'
def lA (Γ : Cn) (τ : RA) : TA := fun σ H Q' => ∃ ρ n F Q, Rel Γ n ρ F σ H ∧ τ n ρ Q ∧ ThenA Γ.g F H Q Q'
def ThenS (Γ : Cn) (F0 : FH) (Q : Nat → List Sl → Prop) (Q' : L2.St → Hp → Prop) : Prop := ∀ ρ n F σ H, le F0 F → Rel Γ n ρ F σ H → Q n ρ → Q' σ H
structure EndsOk (Γ : Cn) (F0 : FH) (D : VEnds) (D' : Ends) : Prop where
  nx : ThenS Γ F0 D.nx D'.nx
  bk : ThenS Γ F0 D.bk D'.bk
  ct : ThenS Γ F0 D.ct D'.ct
  rt : ∀ v t n F H, Fr Γ.F0 Γ.H0 F H → Sub Γ.g n F H → Rep Γ.g F v t → D.rt t n → D'.rt v H
def lS (Γ : Cn) (τ : RS) : TS := fun D' σ H => ∃ ρ n F D, Rel Γ n ρ F σ H ∧ τ D n ρ ∧ EndsOk Γ F D D'
/-- targets: the slots vs may change, nothing else -/
def lG (Γ : Cn) (vs : List Nat) (τ : RG) : TG := fun v σ H Q' => ∃ ρ n F t Q, Rel Γ n ρ F σ H ∧ Rep Γ.g F v t ∧ τ t n ρ Q ∧ ∀ σ2 ρ2, Rel Γ n ρ2 F σ2 H → wipe σ2 vs = wipe σ vs → Q n ρ2 → Q' σ2 H
def lGs (Γ : Cn) (vs : List Nat) (τ : RGs) : TGs := fun ws σ H Q' => ∃ ρ n F ts Q, Rel Γ n ρ F σ H ∧ Reps Γ.g F ws ts ∧ τ ts n ρ Q ∧ ∀ σ2 ρ2, Rel Γ n ρ2 F σ2 H → wipe σ2 vs = wipe σ vs → Q n ρ2 → Q' σ2 H
/-- an operator by values -/
def lR (Γ : Cn) (r : VR2) : R2 := fun x y H Q' => ∃ n F tx ty Q, Γ.Ok ∧ Fr Γ.F0 Γ.H0 F H ∧ Sub Γ.g n F H ∧ Rep Γ.g F x tx ∧ Rep Γ.g F y ty ∧ r tx ty n Q ∧ Then Γ.g F H Q Q'
def lU (Γ : Cn) (r : VR1) : V → Hp → VK → Prop := fun x H Q' => ∃ n F tx Q, Γ.Ok ∧ Fr Γ.F0 Γ.H0 F H ∧ Sub Γ.g n F H ∧ Rep Γ.g F x tx ∧ r tx n Q ∧ Then Γ.g F H Q Q'
def lC (Γ : Cn) (r : VRL) : List V → Hp → VK → Prop := fun xs H Q' => ∃ n F ts Q, Γ.Ok ∧ Fr Γ.F0 Γ.H0 F H ∧ Sub Γ.g n F H ∧ Reps Γ.g F xs ts ∧ r ts n Q ∧ Then Γ.g F H Q Q'
theorem PE.imp {X : Cx} {e : Expr} {t t' : TE} (h : PE X e t) (i : ∀ σ H Q, t' σ H Q → t σ H Q) : PE X e t' := ⟨fun pins s σ H Q I q => h.run pins s σ H Q I (i _ _ _ q)⟩
theorem PT.imp {X : Cx} {e : Expr} {t t' : TT} (h : PT X e t) (i : ∀ σ H Q, t' σ H Q → t σ H Q) : PT X e t' := ⟨fun pins s σ H Q I q => h.run pins s σ H Q I (i _ _ _ q)⟩
theorem PW.imp {X : Cx} {e : Expr} {t t' : TT} (h : PW X e t) (i : ∀ σ H Q, t' σ H Q → t σ H Q) : PW X e t' := ⟨fun wh pins s σ H Q I q => h.run wh pins s σ H Q I (i _ _ _ q)⟩
theorem PA.imp {X : Cx} {e : List Expr} {t t' : TA} (h : PA X e t) (i : ∀ σ H Q, t' σ H Q → t σ H Q) : PA X e t' := ⟨fun pos pins s σ H Q I q => h.run pos pins s σ H Q I (i _ _ _ q)⟩
theorem PS.imp {X : Cx} {e : Stmt} {t t' : TS} (h : PS X e t) (i : ∀ D σ H, t' D σ H → t D σ H) : PS X e t' := ⟨fun pins s σ H D I q => h.run pins s σ H D I (i _ _ _ q)⟩
theorem PSs.imp {X : Cx} {e : List Stmt} {t t' : TS} (h : PSs X e t) (i : ∀ D σ H, t' D σ H → t D σ H) : PSs X e t' := ⟨fun pins s σ H D I q => h.run pins s σ H D I (i _ _ _ q)⟩
theorem PG.imp {X : Cx} {e : Expr} {t t' : TG} (h : PG X e t) (i : ∀ v σ H Q, t' v σ H Q → t v σ H Q) : PG X e t' := ⟨fun pins s σ H v u Q I r q => h.run pins s σ H v u Q I r (i _ _ _ _ q)⟩
theorem PGs.imp {X : Cx} {e : List Expr} {t t' : TGs} (h : PGs X e t) (i : ∀ v σ H Q, t' v σ H Q → t v σ H Q) : PGs X e t' := ⟨fun pins s σ H v u Q I r q => h.run pins s σ H v u Q I r (i _ _ _ _ q)⟩
theorem OpR.imp {X : Cx} {f : Value → Value → Sem Value} {r r' : R2} (h : OpR X f r) (i : ∀ x y H Q, r' x y H Q → r x y H Q) : OpR X f r' := fun pins s σ H x y v u Q I rx ry q => h pins s σ H x y v u Q I rx ry (i _ _ _ _ q)
theorem UnR.imp {X : Cx} {f : Value → Sem Value} {r r' : V → Hp → VK → Prop} (h : UnR X f r) (i : ∀ x H Q, r' x H Q → r x H Q) : UnR X f r' := fun pins s σ H x v Q I rx q => h pins s σ H x v Q I rx (i _ _ _ q)
theorem CallR.imp {X : Cx} {f : Value} {r r' : List V → Hp → VK → Prop} (h : CallR X f r) (i : ∀ x H Q, r' x H Q → r x H Q) : CallR X f r' := fun pins s σ H xs us Q I rx q => h pins s σ H xs us Q I rx (i _ _ _ q)
end VL
/-! expressions at trees -/
namespace VL
open PySem L2 DS PyProof.Rows
def gt : List Sl → Nat → Sl
  | [], _ => .un
  | s :: _, 0 => s
  | _ :: r, i + 1 => gt r i
theorem gt_get : ∀ {ρ : List Sl} {i : Nat} {s : Sl}, gt ρ i = s → s ≠ .un → ρ[i]? = some s
  | [], _, _, e, n => absurd e.symm n
  | s :: _, 0, _, e, _ => by rw [← e]; rfl
  | _ :: r, i + 1, s, e, n => by rw [List.getElem?_cons_succ]; exact gt_get (ρ := r) e n
def vv : Sl → Nat → VQ → Prop
  | .v t, n, Q => Q t n
  | _, _, _ => False
def vVar (i : Nat) : RE := fun n ρ Q => vv (gt ρ i) n Q
def vC (t : Tr) : RE := fun n _ Q => Q t n
def vOp (r : VR2) (a b : RE) : RE := fun n ρ Q => a n ρ fun x n1 => b n1 ρ fun y n2 => r x y n2 Q
def vUn (r : VR1) (a : RE) : RE := fun n ρ Q => a n ρ fun x n1 => r x n1 Q
def vI (C : Int → Int → Prop) (g : Int → Int → Tr) : VR2
  | .int i, .int j, n, Q => C i j ∧ Q (g i j) n
  | _, _, _, _ => False
def vI0 (g : Int → Int → Tr) : VR2
  | .int i, .int j, n, Q => Q (g i j) n
  | _, _, _, _ => False
def vU (g : Int → Tr) : VR1
  | .int i, n, Q => Q (g i) n
  | _, _, _ => False
section
variable {X : Cx} {Γ : Cn} {a b c e : Expr} {ta tb tc te : RE} {pos : Pos} {i : Nat} {x : Str}
theorem ve_var (hN : X.N[i]? = some x) (hv : Vis X.env.scope x) (hd : (x == ("__debug__" : Str)) = false := by decide) (hcd : (x == ("__classdict__" : Str)) = false := by decide) : PE X (.Name x pos) (lE Γ (vVar i)) := by
  refine PE.imp (pe_var hN hv hd hcd) fun σ H Q' ⟨ρ, n, F, Q, rel, h, k⟩ => ?_
  unfold vVar vv at h
  split at h
  · rename_i t e
    obtain ⟨o, h1, v, h2, r⟩ := rel.sl i _ (gt_get e (fun z => nomatch z))
    subst h2
    exact ⟨v, h1, k.here rel.sub r h⟩
  · exact h.elim
theorem ve_of {v : V} {t : Tr} (h : PE X e (tC v)) (r : ∀ F, Rep Γ.g F v t) : PE X e (lE Γ (vC t)) :=
  PE.imp h fun σ H Q' ⟨ρ, n, F, Q, rel, h, k⟩ => k.here rel.sub (r F) h
theorem ve_int {i j} : PE X (.Constant (.int i) j pos) (lE Γ (vC (.int i))) := ve_of pe_int fun _ => .int i
theorem ve_bl {b j} : PE X (.Constant (.bool b) j pos) (lE Γ (vC (.bl b))) := ve_of pe_bl fun _ => .bl b
theorem ve_non {j} : PE X (.Constant .none j pos) (lE Γ (vC .non)) := ve_of pe_non fun _ => .non
theorem ve_str {x j} : PE X (.Constant (.str x) j pos) (lE Γ (vC (.str x))) := ve_of pe_str fun _ => .str x
theorem ve_opq {v : V} (h : PE X e (tC v)) : PE X e (lE Γ (vC (.opq v))) := ve_of h fun _ => .opq v
theorem ve_op {op : Operator} {r : VR2} (ho : OpR X (binaryOp op) (lR Γ r)) (ha : PE X a (lE Γ ta)) (hb : PE X b (lE Γ tb)) : PE X (.BinOp a op b pos) (lE Γ (vOp r ta tb)) :=
  PE.imp (pe_op ho ha hb) fun σ H Q' ⟨ρ, n, F, Q, rel, h, k⟩ =>
    ⟨ρ, n, F, _, rel, h, fun v t n1 F1 H1 f1 s1 r1 q1 => ⟨ρ, n1, F1, _, rel.go f1 s1, q1, fun v2 t2 n2 F2 H2 f2 s2 r2 q2 => ⟨n2, F2, t, t2, Q, rel.ok, (rel.go f1 s1).fr.trans f2, s2, r1.mono f2.le, r2, q2, (k.go f1).go f2⟩⟩⟩
theorem ve_cmp {op : CmpOp} {r : VR2} (ho : OpR X (compareOp op) (lR Γ r)) (ha : PE X a (lE Γ ta)) (hb : PE X b (lE Γ tb)) (hm : behindInMarks op b = false) : PE X (.Compare a [op] [b] pos) (lE Γ (vOp r ta tb)) :=
  PE.imp (pe_cmpR ho ha hb hm) fun σ H Q' ⟨ρ, n, F, Q, rel, h, k⟩ =>
    ⟨ρ, n, F, _, rel, h, fun v t n1 F1 H1 f1 s1 r1 q1 => ⟨ρ, n1, F1, _, rel.go f1 s1, q1, fun v2 t2 n2 F2 H2 f2 s2 r2 q2 => ⟨n2, F2, t, t2, Q, rel.ok, (rel.go f1 s1).fr.trans f2, s2, r1.mono f2.le, r2, q2, (k.go f1).go f2⟩⟩⟩
theorem ve_un {op : UnaryOp} {r : VR1} (ho : UnR X (unaryOp op) (lU Γ r)) (ha : PE X a (lE Γ ta)) : PE X (.UnaryOp op a pos) (lE Γ (vUn r ta)) :=
  PE.imp (pe_un ho ha) fun σ H Q' ⟨ρ, n, F, Q, rel, h, k⟩ =>
    ⟨ρ, n, F, _, rel, h, fun v t n1 F1 H1 f1 s1 r1 q1 => ⟨n1, F1, t, Q, rel.ok, (rel.go f1 s1).fr, s1, r1, q1, k.go f1⟩⟩
/-! ### operators on ints -/
theorem ov_I {f : Value → Value → Sem Value} {C : Int → Int → Prop} {g : Int → Int → V} {g' : Int → Int → Tr} (h : OpR X f (rI C g)) (r : ∀ i j F, Rep Γ.g F (g i j) (g' i j)) : OpR X f (lR Γ (vI C g')) :=
  OpR.imp h fun x y H Q' ⟨n, F, tx, ty, Q, ok, fr, s, rx, ry, q, k⟩ => by
    cases rx with
    | int i => cases ry with
      | int j => exact ⟨i, j, rfl, rfl, q.1, k.here s (r i j F) q.2⟩
      | _ => exact q.elim
    | _ => exact q.elim
theorem ov_I0 {f : Value → Value → Sem Value} {g : Int → Int → V} {g' : Int → Int → Tr} (h : OpR X f (rI0 g)) (r : ∀ i j F, Rep Γ.g F (g i j) (g' i j)) : OpR X f (lR Γ (vI0 g')) :=
  OpR.imp h fun x y H Q' ⟨n, F, tx, ty, Q, ok, fr, s, rx, ry, q, k⟩ => by
    cases rx with
    | int i => cases ry with
      | int j => exact ⟨i, j, rfl, rfl, k.here s (r i j F) q⟩
      | _ => exact q.elim
    | _ => exact q.elim
theorem ov_add : OpR X (binaryOp .Add) (lR Γ (vI0 fun i j => .int (i + j))) := ov_I0 op_add fun i j F => .int _
theorem ov_sub : OpR X (binaryOp .Sub) (lR Γ (vI0 fun i j => .int (i - j))) := ov_I0 op_sub fun i j F => .int _
theorem ov_mul : OpR X (binaryOp .Mult) (lR Γ (vI CMulA fun i j => .int (i * j))) := ov_I op_mulA fun i j F => .int _
theorem ov_fdiv : OpR X (binaryOp .FloorDiv) (lR Γ (vI CDivW fun i j => .int (i / j))) := ov_I op_fdivW fun i j F => .int _
theorem ov_mod : OpR X (binaryOp .Mod) (lR Γ (vI (fun _ j => 0 < j) fun i j => .int (i % j))) := ov_I op_mod fun i j F => .int _
theorem ov_pow : OpR X (binaryOp .Pow) (lR Γ (vI CPow fun i j => .int (i ^ j.toNat))) := ov_I op_pow fun i j F => .int _
theorem ov_lt : OpR X (compareOp .Lt) (lR Γ (vI0 fun i j => .bl (decide (i < j)))) := ov_I0 op_lt fun i j F => .bl _
theorem ov_le : OpR X (compareOp .LtE) (lR Γ (vI0 fun i j => .bl (decide (i ≤ j)))) := ov_I0 op_le fun i j F => .bl _
theorem ov_gt : OpR X (compareOp .Gt) (lR Γ (vI0 fun i j => .bl (decide (j < i)))) := ov_I0 op_gt fun i j F => .bl _
theorem ov_ge : OpR X (compareOp .GtE) (lR Γ (vI0 fun i j => .bl (decide (j ≤ i)))) := ov_I0 op_ge fun i j F => .bl _
theorem un_neg : UnR X (unaryOp .USub) (lU Γ (vU fun i => .int (-i))) := UnR.imp L2.un_neg fun x H Q' ⟨n, F, tx, Q, ok, fr, s, rx, q, k⟩ => by
  cases rx with
  | int i => exact ⟨i, rfl, k.here s (.int _) q⟩
  | _ => exact q.elim
/-- == and != of ints, bools, texts and None -/
def vEqS (neg : Bool) : VR2
  | .int i, .int j, n, Q => Q (.bl (if neg then !decide (i = j) else decide (i = j))) n
  | .str i, .str j, n, Q => Q (.bl (if neg then !decide (i = j) else decide (i = j))) n
  | .bl i, .bl j, n, Q => Q (.bl (if neg then !decide (i = j) else decide (i = j))) n
  | _, _, _, _ => False
theorem dec_congr {p q : Prop} [Decidable p] [Decidable q] (h : p ↔ q) : decide p = decide q := by
  by_cases hp : p
  · rw [decide_eq_true hp, decide_eq_true (h.mp hp)]
  · rw [decide_eq_false hp, decide_eq_false (fun z => hp (h.mpr z))]
theorem ov_eqS : OpR X (compareOp .Eq) (lR Γ (vEqS false)) := OpR.imp op_eq fun x y H Q' ⟨n, F, tx, ty, Q, ok, fr, s, rx, ry, q, k⟩ => by
  cases rx with
  | int i => cases ry with
    | int j => exact ⟨rfl, k.here s (.bl _) (by rw [dec_congr (q := i = j) (by simp)]; exact q)⟩
    | _ => exact q.elim
  | str i => cases ry with
    | str j => exact ⟨rfl, k.here s (.bl _) (by rw [dec_congr (q := i = j) (by simp)]; exact q)⟩
    | _ => exact q.elim
  | bl i => cases ry with
    | bl j => exact ⟨rfl, k.here s (.bl _) (by rw [dec_congr (q := i = j) (by simp)]; exact q)⟩
    | _ => exact q.elim
  | _ => exact q.elim
theorem ov_neS : OpR X (compareOp .NotEq) (lR Γ (vEqS true)) := OpR.imp op_ne fun x y H Q' ⟨n, F, tx, ty, Q, ok, fr, s, rx, ry, q, k⟩ => by
  cases rx with
  | int i => cases ry with
    | int j => exact ⟨rfl, k.here s (.bl _) (by rw [dec_congr (q := i = j) (by simp)]; exact q)⟩
    | _ => exact q.elim
  | str i => cases ry with
    | str j => exact ⟨rfl, k.here s (.bl _) (by rw [dec_congr (q := i = j) (by simp)]; exact q)⟩
    | _ => exact q.elim
  | bl i => cases ry with
    | bl j => exact ⟨rfl, k.here s (.bl _) (by rw [dec_congr (q := i = j) (by simp)]; exact q)⟩
    | _ => exact q.elim
  | _ => exact q.elim
/-- x is None -/
def isNonT : Tr → Option Bool
  | .non => some true
  | .opq _ => none
  | _ => some false
def isNQ (neg : Bool) : Option Bool → Nat → VQ → Prop
  | some b, n, Q => Q (.bl (if neg then !b else b)) n
  | none, _, _ => False
def vIsN (neg : Bool) : VR2
  | t, .non, n, Q => isNQ neg (isNonT t) n Q
  | _, _, _, _ => False
theorem isNon_rep {g : Gb} {F : FH} {v : V} {t : Tr} {b : Bool} (r : Rep g F v t) (h : isNonT t = some b) : decide (v = V.non) = b := by
  cases r <;> cases h <;> first | rfl | simp
theorem ov_isN : OpR X (compareOp .Is) (lR Γ (vIsN false)) := OpR.imp op_isN fun x y H Q' ⟨n, F, tx, ty, Q, ok, fr, s, rx, ry, q, k⟩ => by
  cases ry with
  | non =>
    have q : isNQ false (isNonT tx) n Q := q
    cases e : isNonT tx with
    | none => rw [e] at q; exact q.elim
    | some b =>
      rw [e] at q
      exact ⟨rfl, k.here s (.bl _) (by rw [isNon_rep rx e]; exact q)⟩
  | _ => exact q.elim
theorem ov_notN : OpR X (compareOp .IsNot) (lR Γ (vIsN true)) := OpR.imp op_notN fun x y H Q' ⟨n, F, tx, ty, Q, ok, fr, s, rx, ry, q, k⟩ => by
  cases ry with
  | non =>
    have q : isNQ true (isNonT tx) n Q := q
    cases e : isNonT tx with
    | none => rw [e] at q; exact q.elim
    | some b =>
      rw [e] at q
      exact ⟨rfl, k.here s (.bl _) (by rw [isNon_rep rx e]; exact q)⟩
  | _ => exact q.elim
/-! ### chains, and, or, not, if -/
def vbl : Tr → Nat → (Bool → Nat → Prop) → Prop
  | .bl b, n, Q => Q b n
  | _, _, _ => False
/-- a branch: stays closed until it is asked -/
def brE (b : Bool) (t u : RE) (n : Nat) (ρ : List Sl) (Q : VQ) : Prop := if b = true then t n ρ Q else u n ρ Q
def brT (b : Bool) (t u : RT) (n : Nat) (ρ : List Sl) (Q : Bool → Nat → Prop) : Prop := if b = true then t n ρ Q else u n ρ Q
def vIf (c : RT) (t u : RE) : RE := fun n ρ Q => c n ρ fun b n1 => brE b t u n1 ρ Q
def vAndV (a b : RE) : RE := fun n ρ Q => a n ρ fun x n1 => vbl x n1 fun k n2 => brE k b (vC (.bl false)) n2 ρ Q
def vOrV (a b : RE) : RE := fun n ρ Q => a n ρ fun x n1 => vbl x n1 fun k n2 => brE k (vC (.bl true)) b n2 ρ Q
def vNotV (a : RE) : RE := fun n ρ Q => a n ρ fun x n1 => vbl x n1 fun k n2 => Q (.bl (!k)) n2
def vChain (r r' : VR2) (a b c : RE) : RE := fun n ρ Q => a n ρ fun x n1 => b n1 ρ fun y n2 => r x y n2 fun z n3 => vbl z n3 fun k n4 => brE k (fun n ρ Q => c n ρ fun w n5 => r' y w n5 Q) (vC (.bl false)) n4 ρ Q
theorem vbl_rep {g : Gb} {F : FH} {v : V} {t : Tr} {n : Nat} {Q : Bool → Nat → Prop} (r : Rep g F v t) (h : vbl t n Q) : ∃ b, v = .bl b ∧ Q b n := by
  cases r with
  | bl b => exact ⟨b, rfl, h⟩
  | _ => exact h.elim
theorem ve_and {rest : List Expr} (ha : PE X a (lE Γ ta)) (hb : PE X (.BoolOp .And (b :: rest) pos) (lE Γ tb)) : PE X (.BoolOp .And (a :: b :: rest) pos) (lE Γ (vAndV ta tb)) :=
  PE.imp (pe_and ha hb) fun σ H Q' ⟨ρ, n, F, Q, rel, h, k⟩ => ⟨ρ, n, F, _, rel, h, fun v t n1 F1 H1 f1 s1 r1 q1 => by
    obtain ⟨b, rfl, q⟩ := vbl_rep r1 q1
    refine ⟨b, rfl, ?_⟩
    cases b with
    | true => exact iteT ⟨ρ, n1, F1, _, rel.go f1 s1, (show (if true = true then tb n1 ρ Q else _) from q), k.go f1⟩
    | false => exact iteF ((k.go f1).here s1 (.bl _) (show Q (.bl false) n1 from q))⟩
theorem ve_or {rest : List Expr} (ha : PE X a (lE Γ ta)) (hb : PE X (.BoolOp .Or (b :: rest) pos) (lE Γ tb)) : PE X (.BoolOp .Or (a :: b :: rest) pos) (lE Γ (vOrV ta tb)) :=
  PE.imp (pe_or ha hb) fun σ H Q' ⟨ρ, n, F, Q, rel, h, k⟩ => ⟨ρ, n, F, _, rel, h, fun v t n1 F1 H1 f1 s1 r1 q1 => by
    obtain ⟨b, rfl, q⟩ := vbl_rep r1 q1
    refine ⟨b, rfl, ?_⟩
    cases b with
    | true => exact iteT ((k.go f1).here s1 (.bl _) (show Q (.bl true) n1 from q))
    | false => exact iteF ⟨ρ, n1, F1, _, rel.go f1 s1, (show tb n1 ρ Q from q), k.go f1⟩⟩
theorem ve_one {op} (h : PE X a (lE Γ ta)) : PE X (.BoolOp op [a] pos) (lE Γ ta) := pe_one h
theorem ve_not (ha : PE X a (lE Γ ta)) : PE X (.UnaryOp .Not a pos) (lE Γ (vNotV ta)) :=
  PE.imp (pe_not ha) fun σ H Q' ⟨ρ, n, F, Q, rel, h, k⟩ => ⟨ρ, n, F, _, rel, h, fun v t n1 F1 H1 f1 s1 r1 q1 => by
    obtain ⟨b, rfl, q⟩ := vbl_rep r1 q1
    exact ⟨b, rfl, (k.go f1).here s1 (.bl _) q⟩⟩
theorem ve_ifExp {tA : RT} (hc : PT X c (lT Γ tA)) (ha : PE X a (lE Γ ta)) (hb : PE X b (lE Γ tb)) : PE X (.IfExp c a b pos) (lE Γ (vIf tA ta tb)) :=
  PE.imp (pe_ifExp hc ha hb) fun σ H Q' ⟨ρ, n, F, Q, rel, h, k⟩ => ⟨ρ, n, F, _, rel, h, fun b n1 F1 H1 f1 s1 q1 => by
    cases b with
    | true => exact iteT ⟨ρ, n1, F1, Q, rel.go f1 s1, (show ta n1 ρ Q from q1), k.go f1⟩
    | false => exact iteF ⟨ρ, n1, F1, Q, rel.go f1 s1, (show tb n1 ρ Q from q1), k.go f1⟩⟩
theorem ve_chain {op op' : CmpOp} {r r' : VR2} (ho : OpR X (compareOp op) (lR Γ r)) (ho' : OpR X (compareOp op') (lR Γ r')) (ha : PE X a (lE Γ ta)) (hb : PE X b (lE Γ tb)) (hc : PE X c (lE Γ tc)) (hm : lastMarks [op, op'] [b, c] = false := by rfl) : PE X (.Compare a [op, op'] [b, c] pos) (lE Γ (vChain r r' ta tb tc)) :=
  PE.imp (pe_chain ho ho' ha hb hc hm) fun σ H Q' ⟨ρ, n, F, Q, rel, h, k⟩ => ⟨ρ, n, F, _, rel, h, fun v t n1 F1 H1 f1 s1 r1 q1 => ⟨ρ, n1, F1, _, rel.go f1 s1, q1, fun v2 t2 n2 F2 H2 f2 s2 r2 q2 =>
    ⟨n2, F2, t, t2, _, rel.ok, (rel.go f1 s1).fr.trans f2, s2, r1.mono f2.le, r2, q2, fun v3 t3 n3 F3 H3 f3 s3 r3 q3 => by
      obtain ⟨b, rfl, q⟩ := vbl_rep r3 q3
      refine ⟨b, rfl, ?_⟩
      have rel3 := ((rel.go f1 s1).go f2 s2).go f3 s3
      have k3 := ((k.go f1).go f2).go f3
      cases b with
      | true => exact iteT ⟨ρ, n3, F3, _, rel3, (show tc n3 ρ _ from q), fun v4 t4 n4 F4 H4 f4 s4 r4 q4 => ⟨n4, F4, t2, t4, Q, rel.ok, (rel3.go f4 s4).fr, s4, (r2.mono f3.le).mono f4.le, r4, q4, k3.go f4⟩⟩
      | false => exact iteF (k3.here s3 (.bl _) (show Q (.bl false) n3 from q))⟩⟩⟩
/-! ### tests -/
def vTest (a : RE) : RT := fun n ρ Q => a n ρ fun x n1 => vbl x n1 Q
def vNot (c : RT) : RT := fun n ρ Q => c n ρ fun b n1 => Q (!b) n1
def vYes : RT := fun n _ Q => Q true n
def vNo : RT := fun n _ Q => Q false n
def vAnd (a b : RT) : RT := fun n ρ Q => a n ρ fun k n1 => brT k b vNo n1 ρ Q
def vOr (a b : RT) : RT := fun n ρ Q => a n ρ fun k n1 => brT k vYes b n1 ρ Q
variable {sa sb : RT}
theorem vt_of {e : Expr} {t : RE} (h : PT X e (tTest (lE Γ t))) : PT X e (lT Γ (vTest t)) :=
  PT.imp h fun σ H Q' ⟨ρ, n, F, Q, rel, h, k⟩ => ⟨ρ, n, F, _, rel, h, fun v t n1 F1 H1 f1 s1 r1 q1 => by
    obtain ⟨b, rfl, q⟩ := vbl_rep r1 q1
    exact ⟨b, rfl, k b n1 F1 H1 f1 s1 q⟩⟩
theorem tTest_op {r : VR2} {σ : L2.St} {H : Hp} {Q' : Bool → Hp → Prop} (h : tTest (lE Γ (vOp r ta tb)) σ H Q') : tTest (tOp (lR Γ r) (lE Γ ta) (lE Γ tb)) σ H Q' := by
  obtain ⟨ρ, n, F, Q, rel, h, k⟩ := h
  exact ⟨ρ, n, F, _, rel, h, fun v t n1 F1 H1 f1 s1 r1 q1 => ⟨ρ, n1, F1, _, rel.go f1 s1, q1, fun v2 t2 n2 F2 H2 f2 s2 r2 q2 => ⟨n2, F2, t, t2, Q, rel.ok, (rel.go f1 s1).fr.trans f2, s2, r1.mono f2.le, r2, q2, (k.go f1).go f2⟩⟩⟩
theorem vt_cmp {op : CmpOp} {r : VR2} (ho : OpR X (compareOp op) (lR Γ r)) (ha : PE X a (lE Γ ta)) (hb : PE X b (lE Γ tb)) (hm : behindInMarks op b = false) : PT X (.Compare a [op] [b] pos) (lT Γ (vTest (vOp r ta tb))) :=
  vt_of (PT.imp (pt_cmpR ho ha hb hm) fun σ H Q' h => tTest_op h)
theorem vt_val {e : Expr} {t : RE} (h : PE X e (lE Γ t)) (he : ∀ whole, isTrue e X.env whole = (do let v ← whole; standAt e.pos; holding [v] (truthy v)) := by intro _; rfl) : PT X e (lT Γ (vTest t)) := vt_of (pt_val h he)
theorem vt_not (ha : PT X a (lT Γ sa)) : PT X (.UnaryOp .Not a pos) (lT Γ (vNot sa)) :=
  PT.imp (pt_not ha) fun σ H Q' ⟨ρ, n, F, Q, rel, h, k⟩ => ⟨ρ, n, F, _, rel, h, fun b n1 F1 H1 f1 s1 q1 => k (!b) n1 F1 H1 f1 s1 q1⟩
theorem ThenT.go {g : Gb} {F F' : FH} {H H' : Hp} {Q : Bool → Nat → Prop} {Q' : Bool → Hp → Prop} (k : ThenT g F H Q Q') (f : Fr F H F' H') : ThenT g F' H' Q Q' := fun b n' F2 H2 f2 s q => k b n' F2 H2 (f.trans f2) s q
theorem vw_and1 (ha : PT X a (lT Γ sa)) : PW X (.BoolOp .And [a] pos) (lT Γ sa) := pw_and1 ha
theorem vw_or1 (ha : PT X a (lT Γ sa)) : PW X (.BoolOp .Or [a] pos) (lT Γ sa) := pw_or1 ha
theorem vw_and {rest : List Expr} (ha : PT X a (lT Γ sa)) (hb : PW X (.BoolOp .And (b :: rest) pos) (lT Γ sb)) : PW X (.BoolOp .And (a :: b :: rest) pos) (lT Γ (vAnd sa sb)) :=
  PW.imp (pw_and ha hb) fun σ H Q' ⟨ρ, n, F, Q, rel, h, k⟩ => ⟨ρ, n, F, _, rel, h, fun b n1 F1 H1 f1 s1 q1 => by
    cases b with
    | true => exact iteT ⟨ρ, n1, F1, Q, rel.go f1 s1, (show sb n1 ρ Q from q1), k.go f1⟩
    | false => exact iteF (k false n1 F1 H1 f1 s1 (show Q false n1 from q1))⟩
theorem vw_or {rest : List Expr} (ha : PT X a (lT Γ sa)) (hb : PW X (.BoolOp .Or (b :: rest) pos) (lT Γ sb)) : PW X (.BoolOp .Or (a :: b :: rest) pos) (lT Γ (vOr sa sb)) :=
  PW.imp (pw_or ha hb) fun σ H Q' ⟨ρ, n, F, Q, rel, h, k⟩ => ⟨ρ, n, F, _, rel, h, fun b n1 F1 H1 f1 s1 q1 => by
    cases b with
    | true => exact iteT (k true n1 F1 H1 f1 s1 (show Q true n1 from q1))
    | false => exact iteF ⟨ρ, n1, F1, Q, rel.go f1 s1, (show sb n1 ρ Q from q1), k.go f1⟩⟩
theorem vt_chain {op op' : CmpOp} {r r' : VR2} (ho : OpR X (compareOp op) (lR Γ r)) (ho' : OpR X (compareOp op') (lR Γ r')) (ha : PE X a (lE Γ ta)) (hb : PE X b (lE Γ tb)) (hc : PE X c (lE Γ tc)) (hm : lastMarks [op, op'] [b, c] = false := by rfl) : PT X (.Compare a [op, op'] [b, c] pos) (lT Γ (vTest (vChain r r' ta tb tc))) :=
  vt_of (PT.imp (pt_chain ho ho' ha hb hc hm) fun σ H Q' ⟨ρ, n, F, Q, rel, h, k⟩ => ⟨ρ, n, F, _, rel, h, fun v t n1 F1 H1 f1 s1 r1 q1 => ⟨ρ, n1, F1, _, rel.go f1 s1, q1, fun v2 t2 n2 F2 H2 f2 s2 r2 q2 =>
    ⟨n2, F2, t, t2, _, rel.ok, (rel.go f1 s1).fr.trans f2, s2, r1.mono f2.le, r2, q2, fun v3 t3 n3 F3 H3 f3 s3 r3 q3 => by
      obtain ⟨b, rfl, q⟩ := vbl_rep r3 q3
      refine ⟨b, rfl, ?_⟩
      have rel3 := ((rel.go f1 s1).go f2 s2).go f3 s3
      have k3 := ((k.go f1).go f2).go f3
      cases b with
      | true => exact iteT ⟨ρ, n3, F3, _, rel3, (show tc n3 ρ _ from q), fun v4 t4 n4 F4 H4 f4 s4 r4 q4 => ⟨n4, F4, t2, t4, Q, rel.ok, (rel3.go f4 s4).fr, s4, (r2.mono f3.le).mono f4.le, r4, q4, k3.go f4⟩⟩
      | false => exact iteF (k3.here s3 (.bl _) (show Q (.bl false) n3 from q))⟩⟩⟩)
/-! ### argument lists, displays -/
def vNil : RA := fun n _ Q => Q [] n
def vCons (a : RE) (r : RA) : RA := fun n ρ Q => a n ρ fun x n1 => r n1 ρ fun xs n2 => Q (x :: xs) n2
variable {es : List Expr} {tl : RA}
theorem ThenA.go {g : Gb} {F F' : FH} {H H' : Hp} {Q : List Tr → Nat → Prop} {Q' : List V → Hp → Prop} (k : ThenA g F H Q Q') (f : Fr F H F' H') : ThenA g F' H' Q Q' := fun b ts n' F2 H2 f2 s r q => k b ts n' F2 H2 (f.trans f2) s r q
theorem va_nil : PA X [] (lA Γ vNil) := PA.imp pa_nil fun σ H Q' ⟨ρ, n, F, Q, rel, h, k⟩ => k [] [] n F H (Fr.refl _ _) rel.sub .nil h
theorem va_cons (ha : PE X e (lE Γ te)) (hr : PA X es (lA Γ tl)) (hs : starEach (e :: es) X.env = (false, eval e X.env) :: starEach es X.env := by rfl) : PA X (e :: es) (lA Γ (vCons te tl)) :=
  PA.imp (pa_cons ha hr hs) fun σ H Q' ⟨ρ, n, F, Q, rel, h, k⟩ => ⟨ρ, n, F, _, rel, h, fun v t n1 F1 H1 f1 s1 r1 q1 => ⟨ρ, n1, F1, _, rel.go f1 s1, q1, fun vs ts n2 F2 H2 f2 s2 r2 q2 => k _ _ n2 F2 H2 (f1.trans f2) s2 (.cons (r1.mono f2.le) r2) q2⟩⟩
def vTup (l : RA) : RE := fun n ρ Q => l n ρ fun ts n1 => ts.length ≤ sizeLine ∧ Q (.tup ts) n1
def vLst (l : RA) : RE := fun n ρ Q => l n ρ fun ts n1 => ts.length ≤ sizeLine ∧ Q (.lst ts) n1
theorem ve_tup {x1} (h : PA X es (lA Γ tl)) : PE X (.Tuple es x1 pos) (lE Γ (vTup tl)) :=
  PE.imp (pe_tup h) fun σ H Q' ⟨ρ, n, F, Q, rel, h, k⟩ => ⟨ρ, n, F, _, rel, h, fun vs ts n1 F1 H1 f1 s1 r1 q1 => ⟨by rw [r1.length]; exact q1.1, fun p hp => by
    obtain ⟨f2, s2⟩ := alloc (o := .tup vs) s1 hp
    exact (k.go f1) _ _ n1 _ _ f2 s2 (.tup (.inl (.inl (hp_eq.mpr updF_same))) (r1.mono f2.le)) q1.2⟩⟩
theorem ve_lst (h : PA X es (lA Γ tl)) : PE X (.List es pos) (lE Γ (vLst tl)) :=
  PE.imp (pe_lst h) fun σ H Q' ⟨ρ, n, F, Q, rel, h, k⟩ => ⟨ρ, n, F, _, rel, h, fun vs ts n1 F1 H1 f1 s1 r1 q1 => ⟨by rw [r1.length]; exact q1.1, fun p hp => by
    obtain ⟨f2, s2⟩ := alloc (o := .lst vs) s1 hp
    exact (k.go f1) _ _ n1 _ _ f2 s2 (.lst updF_same (r1.mono f2.le)) q1.2⟩⟩
/-! ### fields -/
def lkQ : Option Tr → Nat → VQ → Prop
  | some t, n, Q => Q t n
  | none, _, _ => False
theorem lkQ_of {o : Option Tr} {n : Nat} {Q : VQ} (h : lkQ o n Q) : ∃ t, o = some t ∧ Q t n := by
  cases o with
  | some t => exact ⟨t, rfl, h⟩
  | none => exact h.elim
def fldC (C : Addr) (f : Str) : Tr → Nat → VQ → Prop
  | .ins C' fs, n, Q => C' = C ∧ lkQ (fs.lookup f) n Q
  | _, _, _ => False
/-- x.f of an instance of the class C -/
def vFldC (C : Addr) (a : RE) (f : Str) : RE := fun n ρ Q => a n ρ fun x n1 => fldC C f x n1 Q
theorem ve_fld {C : Addr} {f : Str} (hK : X.K = Γ.g.K) (hn : NoAttr X.K C f) (he : PE X e (lE Γ te)) (hb : attributeBase e f X.env (eval e X.env) = eval e X.env) : PE X (.Attribute e f pos) (lE Γ (vFldC C te f)) :=
  PE.imp (pe_fld he hb) fun σ H Q' ⟨ρ, n, F, Q, rel, h, k⟩ => ⟨ρ, n, F, _, rel, h, fun v t n1 F1 H1 f1 s1 r1 q1 => by
    cases r1 with
    | ins e c r =>
      obtain ⟨rfl, q1⟩ := q1
      obtain ⟨t, l, q⟩ := lkQ_of q1
      obtain ⟨w, l', rw'⟩ := r.lookup l
      exact ⟨_, _, _, _, w, rfl, s1.at_ e, by rw [hK]; exact c.cl, hn, l', (k.go f1).here s1 rw' q⟩
    | _ => exact q1.elim⟩
/-- self.f, self in the slot i and not frozen yet -/
def fldO (C : Addr) (f : Str) : Sl → Nat → VQ → Prop
  | .oi C' _ _ fs, n, Q => C' = C ∧ lkQ (fs.lookup f) n Q
  | _, _, _ => False
def vFldO (C : Addr) (i : Nat) (f : Str) : RE := fun n ρ Q => fldO C f (gt ρ i) n Q
theorem ve_fldO {C : Addr} {f : Str} {p : Pos} (hK : X.K = Γ.g.K) (hn : NoAttr X.K C f) (hN : X.N[i]? = some x) (hv : Vis X.env.scope x) (hb : attributeBase (.Name x p) f X.env (eval (.Name x p) X.env) = eval (.Name x p) X.env) (hd : (x == ("__debug__" : Str)) = false := by decide) (hcd : (x == ("__classdict__" : Str)) = false := by decide) : PE X (.Attribute (.Name x p) f pos) (lE Γ (vFldO C i f)) :=
  PE.imp (pe_fld (pe_var hN hv hd hcd) hb) fun σ H Q' ⟨ρ, n, F, Q, rel, h, k⟩ => by
    have h : fldO C f (gt ρ i) n Q := h
    cases eg : gt ρ i with
    | oi C' a dx fs =>
      rw [eg] at h
      obtain ⟨ec, hq⟩ := h
      subst ec
      obtain ⟨t, l, q⟩ := lkQ_of hq
      obtain ⟨o, h1, fvs, h2, h3, h4, h5, c, r⟩ := rel.sl i _ (gt_get eg (fun z => nomatch z))
      subst h2
      obtain ⟨w, l', rw'⟩ := r.lookup l
      exact ⟨_, h1, a, _, dx, fvs, w, rfl, h3, by rw [hK]; exact c.cl, hn, l', k.here rel.sub rw' q⟩
    | _ => rw [eg] at h; exact h.elim
end
end VL
/-! promises and calls at trees -/
namespace VL
open PySem L2 DS PyProof.Rows
abbrev VSp := List Tr → Nat → VQ → XQ → Prop
def ThenX (g : Gb) (F : FH) (H : Hp) (x : XQ) (E : XK) : Prop := ∀ C d fvs fts n' F' H', Fr F H F' H' → Sub g n' F' H' → XAt H' d fvs → RepF g F' fvs fts → x C fts n' → E (.ref C) d H'
def lSp (g : Gb) (m : Nat) (sp : VSp) : Sp := fun vs H Q' E => ∃ n F ts Q x, ts.length = m ∧ Sub g n F H ∧ Reps g F vs ts ∧ sp ts n Q x ∧ Then g F H Q Q' ∧ ThenX g F H x E
theorem lSp.len {g : Gb} {m : Nat} {sp : VSp} {vs : List V} {H : Hp} {Q' : VK} {E : XK} (h : lSp g m sp vs H Q' E) : vs.length = m := by
  obtain ⟨n, F, ts, Q, x, hl, s, r, _⟩ := h
  rw [r.length, hl]
theorem Cn.Ok.thenX {Γ : Cn} (ok : Γ.Ok) {F : FH} {H : Hp} (f : Fr Γ.F0 Γ.H0 F H) : ThenX Γ.g F H Γ.x Γ.E := fun C d fvs fts n' F' H' f' s' xa rf hx => ok.out C d fvs fts n' F' H' (f.trans f') s' xa rf hx
/-- __init__: the fields that self has at its end -/
abbrev VIp := List Tr → Nat → (List (Str × Tr) → Nat → Prop) → XQ → Prop
def lIp (g : Gb) (C : Addr) (m : Nat) (sp : VIp) : Sp := fun vs H Q' E => ∃ (H0 : Hp) (x dx : Addr) (ws : List V) (n : Nat) (F : FH) (ts : List Tr) (Q : List (Str × Tr) → Nat → Prop) (xq : XQ), vs = .ref x :: ws ∧ H0 x = none ∧ H0 dx = none ∧ dx ≠ x ∧ H = upd (upd H0 dx (.own x)) x (.ins C dx []) ∧
  OwnC g.K C ∧ ts.length = m ∧ Sub g n F H0 ∧ Reps g F ws ts ∧ sp ts n Q xq ∧ (∀ fvs fts n' F' H', Fr F H0 F' H' → Sub g n' F' H' → H' x = some (.ins C dx fvs) → F' x = none → RepF g F' fvs fts → Q fts n' → Q' .non H') ∧ ThenX g F H0 xq E
theorem lIp.len {g : Gb} {C : Addr} {m : Nat} {sp : VIp} {vs : List V} {H : Hp} {Q' : VK} {E : XK} (h : lIp g C m sp vs H Q' E) : vs.length = m + 1 := by
  obtain ⟨H0, x, dx, ws, n, F, ts, Q, xq, e, _, _, _, _, _, hl, s, r, _⟩ := h
  rw [e, List.length_cons, r.length, hl]
/-- an object is frozen -/
theorem freeze {g : Gb} {n : Nat} {F : FH} {H : Hp} {p : Addr} {o : HO} (s : Sub g n F H) (e : H p = some o) (f : F p = none) (no : ∀ ps, o ≠ .tbl ps := by intro _ z; cases z) : le F (updF F p (.ob o)) ∧ Sub g n (updF F p (.ob o)) H := by
  refine ⟨le_updF f, fun a u h => ?_, fun a h => ?_, s.tab, fun a ps h => ?_⟩
  · have h' := hp_eq.mp h
    by_cases q : a = p
    · subst q
      rw [updF_same] at h'
      cases h'
      exact e
    · rw [updF_ne q] at h'
      exact s.at_ h'
  · have q : a ≠ p := fun z => by subst z; rw [updF_same] at h; cases h
    rw [updF_ne q] at h
    obtain ⟨c, ns, k, l, h1, h2, h3⟩ := (s.pen a h).ex
    exact ⟨c, ns, k, l, h1, le_updF f c _ h2, h3⟩
  · by_cases q : a = p
    · subst q
      rw [updF_same] at h
      cases h
      exact no _ rfl
    · rw [updF_ne q] at h
      exact s.nt a ps h
theorem Fr.frz {F F' : FH} {H H' : Hp} {p : Addr} {o : FO} (f : Fr F H F' H') (e : nt H p = none) (e' : F' p = none) : Fr F H (updF F' p o) H' := by
  refine ⟨f.le.trans (le_updF e'), fun a h => ?_, f.keep, f.there⟩
  by_cases q : a = p
  · right; rw [q]; exact e
  · rw [updF_ne q] at h; exact f.fresh a h
def vCall (m : Nat) (x : XQ) (sp : VSp) (dts : List Tr) (a : RA) : RE := fun n ρ Q => a n ρ fun ts n1 => (ts ++ dts).length = m ∧ sp (ts ++ dts) n1 Q x
def methQ (C : Addr) (m : Str) : Tr → Nat → (Tr → Nat → Prop) → Prop
  | .ins C' fs, n, Q => C' = C ∧ fs.lookup m = none ∧ Q (.ins C' fs) n
  | _, _, _ => False
def vMeth (C : Addr) (nm : Str) (m : Nat) (x : XQ) (sp : VSp) (dts : List Tr) (a : RE) (l : RA) : RE := fun n ρ Q => a n ρ fun t n1 => methQ C nm t n1 fun t n2 => l n2 ρ fun ts n3 => (t :: (ts ++ dts)).length = m ∧ sp (t :: (ts ++ dts)) n3 Q x
def vMake (C : Addr) (m : Nat) (x : XQ) (sp : VIp) (dts : List Tr) (a : RA) : RE := fun n ρ Q => a n ρ fun ts n1 => (ts ++ dts).length = m ∧ sp (ts ++ dts) n1 (fun fs n2 => Q (.ins C fs) n2) x
section
variable {X : Cx} {Γ : Cn} {k : Nat} {f C : Addr} {fd : FuncData} {ps : List Str} {m : Nat} {sp : VSp} {si : VIp} {dvs : List V} {dts : List Tr} {ds : List Value} {x nm : Str} {p pos apos : Pos} {e o : Expr} {es : List Expr} {ta : RE} {tl : RA}
theorem call_in {σ : L2.St} {H : Hp} {Q' : VK} (hd : ∀ F, Reps Γ.g F dvs dts) (h : lE Γ (vCall m Γ.x sp dts tl) σ H Q') : tCall (lSp Γ.g m sp) dvs Γ.E (lA Γ tl) σ H Q' := by
  obtain ⟨ρ, n, F, Q, rel, h, kk⟩ := h
  exact ⟨ρ, n, F, _, rel, h, fun vs ts n1 F1 H1 f1 s1 r1 q1 => ⟨n1, F1, ts ++ dts, Q, Γ.x, q1.1, s1, r1.append (hd F1), q1.2, kk.go f1, rel.ok.thenX (rel.fr.trans f1)⟩⟩
theorem ve_call (F : FnOk X.prog X.w X.K X.mg X.base (L2.CX X.prog X.w) k f fd ps (lSp Γ.g m sp)) (hr : Room k X.A) (hg : Gl X x) (hm : X.mg x = some (.ref f)) (hk : PySem.W.keepIn X.K (.ref f) = true) (hb : Binds X.K fd ps ds) (hd : Vals dvs ds) (hdt : ∀ F, Reps Γ.g F dvs dts) (hx : Passes (L2.CX X.prog X.w) X Γ.E) (ha : PA X (e :: es) (lA Γ tl))
    (hdb : (x == ("__debug__" : Str)) = false := by decide) (he : starEach (e :: es) X.env = (false, eval e X.env) :: starEach es X.env := by rfl) (hpl : (backTo pos (starEach es X.env)).any (·.1) = false := by rfl) : PE X (.Call (.Name x p) (e :: es) [] pos) (lE Γ (vCall m Γ.x sp dts tl)) :=
  PE.imp (pe_call F hr hg hm hk hb hd hx ha hdb he hpl) fun σ H Q' h => call_in hdt h
theorem ve_call0 (F : FnOk X.prog X.w X.K X.mg X.base (L2.CX X.prog X.w) k f fd ps (lSp Γ.g m sp)) (hr : Room k X.A) (hg : Gl X x) (hm : X.mg x = some (.ref f)) (hk : PySem.W.keepIn X.K (.ref f) = true) (hb : Binds X.K fd ps ds) (hd : Vals dvs ds) (hdt : ∀ F, Reps Γ.g F dvs dts) (hx : Passes (L2.CX X.prog X.w) X Γ.E)
    (hdb : (x == ("__debug__" : Str)) = false := by decide) : PE X (.Call (.Name x p) [] [] pos) (lE Γ (vCall m Γ.x sp dts vNil)) :=
  PE.imp (pe_call0 F hr hg hm hk hb hd hx hdb) fun σ H Q' h => by
    obtain ⟨ρ, n, F, Q, rel, h, kk⟩ := h
    exact ⟨n, F, [] ++ dts, Q, Γ.x, h.1, rel.sub, (Reps.nil).append (hdt F), h.2, kk, rel.ok.thenX rel.fr⟩
theorem ve_meth {pl : Sem Bool} (he : PE X o (lE Γ ta)) (c : Cls X.K C) (hm : Meth X.K C nm f) (F : FnOk X.prog X.w X.K X.mg X.base (L2.CX X.prog X.w) k f fd ps (lSp Γ.g m sp)) (hr : Room k X.A) (hb : Binds X.K fd ps ds) (hd : Vals dvs ds) (hdt : ∀ F, Reps Γ.g F dvs dts) (hx : Passes (L2.CX X.prog X.w) X Γ.E) (ha : PA X (e :: es) (lA Γ tl))
    (hst : starEach (e :: es) X.env = (false, eval e X.env) :: starEach es X.env := by rfl) (hpl : (backTo pos (starEach es X.env)).any (·.1) = false := by rfl)
    (ht : eval (.Call (.Attribute o nm apos) (e :: es) [] pos) X.env = (do
      let ov ← eval o X.env
      standAt apos.atName
      let (f, first) ← holding [ov] (getMethod ov nm pl)
      callWith pos f first (backTo pos (starEach (e :: es) X.env)) (backToKw pos (keywordEach [] X.env))) := by rfl) :
    PE X (.Call (.Attribute o nm apos) (e :: es) [] pos) (lE Γ (vMeth C nm m Γ.x sp dts ta tl)) :=
  PE.imp (pe_meth (pl := pl) he c hm F hr hb hd hx ha hst hpl ht) fun σ H Q' ⟨ρ, n, F, Q, rel, h, kk⟩ => ⟨ρ, n, F, _, rel, h, fun v t n1 F1 H1 f1 s1 r1 q1 => by
    cases r1 with
    | ins e1 c1 r1 =>
      obtain ⟨rfl, l, q⟩ := q1
      refine ⟨_, _, _, rfl, s1.at_ e1, r1.lookup_none l, ρ, n1, F1, _, rel.go f1 s1, q, fun vs ts n2 F2 H2 f2 s2 r2 q2 => ⟨n2, F2, _, Q, Γ.x, q2.1, s2, .cons ((Rep.ins e1 c1 r1).mono f2.le) (r2.append (hdt F2)), q2.2, (kk.go f1).go f2, rel.ok.thenX ((rel.fr.trans f1).trans f2)⟩⟩
    | _ => exact q1.elim⟩
theorem ve_meth0 {pl : Sem Bool} (he : PE X o (lE Γ ta)) (c : Cls X.K C) (hm : Meth X.K C nm f) (F : FnOk X.prog X.w X.K X.mg X.base (L2.CX X.prog X.w) k f fd ps (lSp Γ.g m sp)) (hr : Room k X.A) (hb : Binds X.K fd ps ds) (hd : Vals dvs ds) (hdt : ∀ F, Reps Γ.g F dvs dts) (hx : Passes (L2.CX X.prog X.w) X Γ.E)
    (ht : eval (.Call (.Attribute o nm apos) [] [] pos) X.env = (do
      let ov ← eval o X.env
      standAt apos.atName
      let (f, first) ← holding [ov] (getMethod ov nm pl)
      callWith pos f first (backTo pos (starEach [] X.env)) (backToKw pos (keywordEach [] X.env))) := by rfl) :
    PE X (.Call (.Attribute o nm apos) [] [] pos) (lE Γ (vMeth C nm m Γ.x sp dts ta vNil)) :=
  PE.imp (pe_meth0 (pl := pl) he c hm F hr hb hd hx ht) fun σ H Q' ⟨ρ, n, F, Q, rel, h, kk⟩ => ⟨ρ, n, F, _, rel, h, fun v t n1 F1 H1 f1 s1 r1 q1 => by
    cases r1 with
    | ins e1 c1 r1 =>
      obtain ⟨rfl, l, q⟩ := q1
      exact ⟨_, _, _, rfl, s1.at_ e1, r1.lookup_none l, n1, F1, _, Q, Γ.x, q.1, s1, .cons (Rep.ins e1 c1 r1) ((Reps.nil).append (hdt F1)), q.2, kk.go f1, rel.ok.thenX (rel.fr.trans f1)⟩
    | _ => exact q1.elim⟩
theorem make_in {H : Hp} {Q' : VK} {n1 : Nat} {F1 : FH} {ts : List Tr} {vs : List V} {Q : VQ} (oc : OwnC Γ.g.K C) (ok : Γ.Ok) (fr : Fr Γ.F0 Γ.H0 F1 H) (s1 : Sub Γ.g n1 F1 H) (r1 : Reps Γ.g F1 vs ts) (hl : ts.length = m) (q : si ts n1 (fun fs n2 => Q (.ins C fs) n2) Γ.x) (kk : Then Γ.g F1 H Q Q') :
    ∀ x dx, H x = none → H dx = none → dx ≠ x → lIp Γ.g C m si (.ref x :: vs) (upd (upd H dx (.own x)) x (.ins C dx [])) (fun v H2 => v = .non ∧ Q' (.ref x) H2) Γ.E := by
  intro x dx nx nd ne
  refine ⟨H, x, dx, vs, n1, F1, ts, _, Γ.x, rfl, nx, nd, ne, rfl, oc, hl, s1, r1, q, fun fvs fts n' F' H' f' s' hx' fx rf q' => ⟨rfl, ?_⟩, ok.thenX fr⟩
  obtain ⟨l2, s2⟩ := freeze s' hx' fx
  exact kk _ _ n' _ H' (f'.frz (nt_none nx) fx) s2 (.ins updF_same oc (rf.mono l2)) q'
theorem ve_make (oc : OwnC Γ.g.K C) (M : Mk X.K C f) (F : FnOk X.prog X.w X.K X.mg X.base (L2.CX X.prog X.w) k f fd ps (lIp Γ.g C m si)) (hr : Room (k + 1) X.A) (hg : Gl X x) (hm : X.mg x = some (.ref C)) (hb : Binds X.K fd ps ds) (hd : Vals dvs ds) (hdt : ∀ F, Reps Γ.g F dvs dts) (hx : Passes (L2.CX X.prog X.w) X Γ.E) (ha : PA X (e :: es) (lA Γ tl))
    (hdb : (x == ("__debug__" : Str)) = false := by decide) (he : starEach (e :: es) X.env = (false, eval e X.env) :: starEach es X.env := by rfl) (hpl : (backTo pos (starEach es X.env)).any (·.1) = false := by rfl) : PE X (.Call (.Name x p) (e :: es) [] pos) (lE Γ (vMake C m Γ.x si dts tl)) :=
  PE.imp (pe_make M F hr hg hm hb hd hx ha hdb he hpl) fun σ H Q' ⟨ρ, n, F, Q, rel, h, kk⟩ => ⟨ρ, n, F, _, rel, h, fun vs ts n1 F1 H1 f1 s1 r1 q1 => make_in oc rel.ok (rel.fr.trans f1) s1 (r1.append (hdt F1)) q1.1 q1.2 (kk.go f1)⟩
/-! ### own operators -/
/-- x op y by the own method of x, both of the class C -/
def vBinII (C : Addr) (m : Nat) (x : XQ) (sp : VSp) : VR2
  | .ins C1 fs, .ins C2 gs, n, Q => C1 = C ∧ C2 = C ∧ sp [.ins C1 fs, .ins C2 gs] n Q x
  | _, _, _, _ => False
theorem lSp2 {F : FH} {H : Hp} {n : Nat} {tx ty : Tr} {vx vy : V} {Q : VQ} {Q' : VK} (ok : Γ.Ok) (fr : Fr Γ.F0 Γ.H0 F H) (s : Sub Γ.g n F H) (rx : Rep Γ.g F vx tx) (ry : Rep Γ.g F vy ty) (q : sp [tx, ty] n Q Γ.x) (kk : Then Γ.g F H Q Q') : lSp Γ.g 2 sp [vx, vy] H Q' Γ.E :=
  ⟨n, F, [tx, ty], Q, Γ.x, rfl, s, .cons rx (.cons ry .nil), q, kk, ok.thenX fr⟩
theorem ov_binII {op : Operator} (hm : Meth X.K C nm f) (hnm : PySem.dunder op.info.2 = nm) (hc : PySem.W.selfFirst X.K C = true) (F : FnOk X.prog X.w X.K X.mg X.base (L2.CX X.prog X.w) k f fd ps (lSp Γ.g 2 sp)) (hr : Room k X.A) (hb : Binds X.K fd ps []) (hx : Passes (L2.CX X.prog X.w) X Γ.E) :
    OpR X (binaryOp op) (lR Γ (vBinII C 2 Γ.x sp)) := OpR.imp (op_binII hm hnm hc F hr hb hx) fun x y H Q' ⟨n, F, tx, ty, Q, ok, fr, s, rx, ry, q, kk⟩ => by
  cases rx with
  | ins e1 c1 r1 => cases ry with
    | ins e2 c2 r2 =>
      obtain ⟨rfl, rfl, q⟩ := q
      exact ⟨_, _, _, _, _, _, rfl, rfl, s.at_ e1, s.at_ e2, lSp2 ok fr s (.ins e1 c1 r1) (.ins e2 c2 r2) q kk⟩
    | _ => exact q.elim
  | _ => exact q.elim
/-- x op n, n an int -/
def vBinIZ (C : Addr) (x : XQ) (sp : VSp) : VR2
  | .ins C1 fs, .int z, n, Q => C1 = C ∧ sp [.ins C1 fs, .int z] n Q x
  | _, _, _, _ => False
theorem ov_binIZ {op : Operator} (hm : Meth X.K C nm f) (hnm : PySem.dunder op.info.2 = nm) (hc : PySem.W.selfFirst X.K C = true) (hi : IntR X.K C op) (F : FnOk X.prog X.w X.K X.mg X.base (L2.CX X.prog X.w) k f fd ps (lSp Γ.g 2 sp)) (hr : Room k X.A) (hb : Binds X.K fd ps []) (hx : Passes (L2.CX X.prog X.w) X Γ.E) :
    OpR X (binaryOp op) (lR Γ (vBinIZ C Γ.x sp)) := OpR.imp (op_binIZ hm hnm hc hi F hr hb hx) fun x y H Q' ⟨n, F, tx, ty, Q, ok, fr, s, rx, ry, q, kk⟩ => by
  cases rx with
  | ins e1 c1 r1 => cases ry with
    | int z =>
      obtain ⟨rfl, q⟩ := q
      exact ⟨_, _, _, _, rfl, rfl, s.at_ e1, lSp2 ok fr s (.ins e1 c1 r1) (.int z) q kk⟩
    | _ => exact q.elim
  | _ => exact q.elim
/-- -x by the own __neg__ -/
def vNegOwn (C : Addr) (x : XQ) (sp : VSp) : VR1
  | .ins C1 fs, n, Q => C1 = C ∧ sp [.ins C1 fs] n Q x
  | _, _, _ => False
theorem un_negOwn (hm : Meth X.K C "__neg__" f) (F : FnOk X.prog X.w X.K X.mg X.base (L2.CX X.prog X.w) k f fd ps (lSp Γ.g 1 sp)) (hr : Room k X.A) (hb : Binds X.K fd ps []) (hx : Passes (L2.CX X.prog X.w) X Γ.E) :
    UnR X (unaryOp .USub) (lU Γ (vNegOwn C Γ.x sp)) := UnR.imp (DS.un_negOwn hm F hr hb hx) fun x H Q' ⟨n, F, tx, Q, ok, fr, s, rx, q, kk⟩ => by
  cases rx with
  | ins e1 c1 r1 =>
    obtain ⟨rfl, q⟩ := q
    exact ⟨_, _, _, rfl, s.at_ e1, n, F, [_], Q, Γ.x, rfl, s, .cons (.ins e1 c1 r1) .nil, q, kk, ok.thenX fr⟩
  | _ => exact q.elim
/-- x == y, x != y by the own __eq__ -/
def vEqII (neg : Bool) (C : Addr) (x : XQ) (sp : VSp) : VR2
  | .ins C1 fs, .ins C2 gs, n, Q => C1 = C ∧ C2 = C ∧ sp [.ins C1 fs, .ins C2 gs] n (fun t n1 => vbl t n1 fun b n2 => Q (.bl (if neg then !b else b)) n2) x
  | _, _, _, _ => False
theorem Then.bl {F : FH} {H : Hp} {Q : VQ} {Q' : VK} {neg : Bool} (kk : Then Γ.g F H Q Q') : Then Γ.g F H (fun t n1 => vbl t n1 fun b n2 => Q (.bl (if neg then !b else b)) n2) (fun v H' => ∃ b, v = .bl b ∧ Q' (.bl (if neg then !b else b)) H') := fun v t n' F' H' f' s' r' q' => by
  obtain ⟨b, rfl, q⟩ := vbl_rep r' q'
  exact ⟨b, rfl, kk _ _ n' F' H' f' s' (.bl _) q⟩
theorem ov_eqII (hm : Meth X.K C "__eq__" f) (F : FnOk X.prog X.w X.K X.mg X.base (L2.CX X.prog X.w) k f fd ps (lSp Γ.g 2 sp)) (hr : Room k X.A) (hb : Binds X.K fd ps []) (hx : Passes (L2.CX X.prog X.w) X Γ.E) :
    OpR X (compareOp .Eq) (lR Γ (vEqII false C Γ.x sp)) := OpR.imp (op_eqII hm F hr hb hx) fun x y H Q' ⟨n, F, tx, ty, Q, ok, fr, s, rx, ry, q, kk⟩ => by
  cases rx with
  | ins e1 c1 r1 => cases ry with
    | ins e2 c2 r2 =>
      obtain ⟨rfl, rfl, q⟩ := q
      exact ⟨_, _, _, _, _, _, rfl, rfl, s.at_ e1, s.at_ e2, lSp2 ok fr s (.ins e1 c1 r1) (.ins e2 c2 r2) q (Then.bl (neg := false) kk)⟩
    | _ => exact q.elim
  | _ => exact q.elim
theorem ov_neII (hm : Meth X.K C "__eq__" f) (hne : PySem.W.findIn X.K (.ref C) "__ne__" = some (some (.builtin "object.__ne__"))) (hmo : PySem.W.mroIn X.K C (.type "object") = some true) (F : FnOk X.prog X.w X.K X.mg X.base (L2.CX X.prog X.w) k f fd ps (lSp Γ.g 2 sp)) (hr : Room (k + 1) X.A) (hb : Binds X.K fd ps []) (hx : Passes (L2.CX X.prog X.w) X Γ.E) :
    OpR X (compareOp .NotEq) (lR Γ (vEqII true C Γ.x sp)) := OpR.imp (op_neII hm hne hmo F hr hb hx) fun x y H Q' ⟨n, F, tx, ty, Q, ok, fr, s, rx, ry, q, kk⟩ => by
  cases rx with
  | ins e1 c1 r1 => cases ry with
    | ins e2 c2 r2 =>
      obtain ⟨rfl, rfl, q⟩ := q
      exact ⟨_, _, _, _, _, _, rfl, rfl, s.at_ e1, s.at_ e2, lSp2 ok fr s (.ins e1 c1 r1) (.ins e2 c2 r2) q (Then.bl (neg := true) kk)⟩
    | _ => exact q.elim
  | _ => exact q.elim
end
/-! ### no exception -/
def Cn.nox (Γ : Cn) : Cn := ⟨Γ.g, Γ.F0, Γ.H0, fun _ _ _ => False, fun _ _ _ => False⟩
theorem Rel.nox {Γ : Cn} {n : Nat} {ρ : List Sl} {F : FH} {σ : L2.St} {H : Hp} (r : Rel Γ n ρ F σ H) : Rel Γ.nox n ρ F σ H := ⟨⟨fun _ _ _ _ _ _ _ _ _ _ _ h => h⟩, r.fr, r.sub, r.len, r.sl, r.dis⟩
theorem Rel.unnox {Γ : Cn} {n : Nat} {ρ : List Sl} {F : FH} {σ : L2.St} {H : Hp} (ok : Γ.Ok) (r : Rel Γ.nox n ρ F σ H) : Rel Γ n ρ F σ H := ⟨ok, r.fr, r.sub, r.len, r.sl, r.dis⟩
theorem passes_no {X : Cx} {P : Program} {w : World} : Passes (L2.CX P w) X (fun _ _ _ => False) := fun pins σ H s e s' I h => by
  obtain ⟨_, _, _, _, _, _, _, _, _, _, _, _, z⟩ := h
  exact z.elim
/-! ### a def by its body -/
def startT (N : List Str) (ts : List Tr) : List Sl := ts.map Sl.v ++ List.replicate (N.length - ts.length) .un
theorem start_rel {Γ : Cn} {N : List Str} {n : Nat} {F : FH} {H : Hp} {vs : List V} {ts : List Tr} (ok : Γ.Ok) (fr : Fr Γ.F0 Γ.H0 F H) (s : Sub Γ.g n F H) (r : Reps Γ.g F vs ts) : Rel Γ n (startT N ts) F (L2.start N vs) H := by
  have hl := r.length
  have own : ∀ (i : Nat) u, (startT N ts)[i]? = some u → isOwn u = false := fun i u e => by
    unfold startT at e
    by_cases h : i < ts.length
    · rw [List.getElem?_append_left (by simpa using h), List.getElem?_map] at e
      cases q : ts[i]? with
      | none => rw [q] at e; cases e
      | some t => rw [q] at e; cases e; rfl
    · rw [List.getElem?_append_right (by simpa using h), List.getElem?_replicate] at e
      split at e
      · cases e; rfl
      · cases e
  refine ⟨ok, fr, s, by unfold startT L2.start; simp [hl], fun i u e => ?_, fun i j a u w _ e1 _ o1 => by rw [own i u e1] at o1; cases o1⟩
  unfold startT at e
  unfold L2.start
  by_cases h : i < ts.length
  · rw [List.getElem?_append_left (by simpa using h), List.getElem?_map] at e
    cases q : ts[i]? with
    | none => rw [q] at e; cases e
    | some t =>
      rw [q] at e
      cases e
      obtain ⟨v, h1, h2⟩ := r.get i q
      refine ⟨some v, ?_, v, rfl, h2⟩
      rw [List.getElem?_append_left (by simpa [hl] using h), List.getElem?_map, h1]
      rfl
  · rw [List.getElem?_append_right (by simpa using h), List.getElem?_replicate] at e
    split at e
    · rename_i h2
      cases e
      refine ⟨none, ?_, trivial⟩
      rw [List.getElem?_append_right (by simpa [hl] using h), List.getElem?_replicate, if_pos (by simpa [hl] using h2)]
    · cases e
/-- fn_of's shape: any way to a def by its body (Fun.ok, FunD.ok) -/
def ByBody (P : Program) (w : World) (K : PySem.W.Frag) (mg : Str → Option Value) (base : Heap) (f : Addr) (fd : FuncData) (ps N : List Str) (qual : Str) (scope : Scope) (body : List Stmt) (k : Nat) : Prop :=
  ∀ sp : Sp, (∀ vs H Q E, sp vs H Q E → vs.length = ps.length) → (∀ (cdv : Value) (A : Around) (outer : List Env) (s : Shared) (H : Hp) (vs : List V) (Q : VK) (E : XK), Room k (A.deeper (envOfC qual scope s.heap.objs.size f cdv)) → sp vs H Q E →
    ∃ t, PSs (cxOf (L2.CX P w) P w K mg base N qual scope f cdv A outer s H E) body t ∧ t { nx := fun _ H' => Q .non H', rt := Q } (L2.start N vs) H) → FnOk P w K mg base (L2.CX P w) (k + 1) f fd ps sp
section
variable {P : Program} {w : World} {K : PySem.W.Frag} {mg : Str → Option Value} {base : Heap} {f : Addr} {fd : FuncData} {ps N : List Str} {qual : Str} {scope : Scope} {body : List Stmt} {k m : Nat}
theorem hx_of {cdv : Value} {A : Around} {outer : List Env} {s : Shared} {H : Hp} {E : XK} : Passes (L2.CX P w) (cxOf (L2.CX P w) P w K mg base N qual scope f cdv A outer s H E) E := passes_call (takes_of rfl rfl rfl rfl) (fun _ _ _ _ h => h)
theorem own_of {cdv : Value} {A : Around} {outer : List Env} {s : Shared} {H : Hp} {E : XK} : PassesOwn (model P w) (cxOf (L2.CX P w) P w K mg base N qual scope f cdv A outer s H E).A (cxOf (L2.CX P w) P w K mg base N qual scope f cdv A outer s H E).env (cxOf (L2.CX P w) P w K mg base N qual scope f cdv A outer s H E).xe := passes_of rfl
def ends (Q : VQ) : VEnds := { nx := fun n _ => Q .non n, rt := Q }
theorem ok_v {g : Gb} {sp : VSp} (F : ByBody P w K mg base f fd ps N qual scope body k) (hm : ps.length = m)
    (hb : ∀ (cdv : Value) (A : Around) (outer : List Env) (s : Shared) (H : Hp) (E : XK) (F0 : FH) (x : XQ), Room k (A.deeper (envOfC qual scope s.heap.objs.size f cdv)) →
      ∃ τ, PSs (cxOf (L2.CX P w) P w K mg base N qual scope f cdv A outer s H E) body (lS ⟨g, F0, H, E, x⟩ τ) ∧ ∀ ts n Q, ts.length = m → sp ts n Q x → τ (ends Q) n (startT N ts)) : FnOk P w K mg base (L2.CX P w) (k + 1) f fd ps (lSp g m sp) := by
  refine F _ (fun vs H Q E h => by rw [hm]; exact h.len) (fun cdv A outer s H vs Q' E hr h => ?_)
  obtain ⟨n, F0, ts, Q, x, hl, sb, r, q, kk, kx⟩ := h
  obtain ⟨τ, h1, h2⟩ := hb cdv A outer s H E F0 x hr
  refine ⟨_, h1, startT N ts, n, F0, ends Q, start_rel ⟨fun C d fvs fts n F H f' s' xa rf hx => kx C d fvs fts n F H f' s' xa rf hx⟩ (Fr.refl _ _) sb r, h2 ts n Q hl q, ⟨fun ρ' n' F' σ' H' _ rel q' => ?_, fun _ _ _ _ _ _ _ q' => q'.elim, fun _ _ _ _ _ _ _ q' => q'.elim, fun v t n' F' H' f' s' r' q' => kk v t n' F' H' f' s' r' q'⟩⟩
  exact kk .non .non n' F' H' rel.fr rel.sub .non q'
def oiQ (C x dx : Addr) (Q : List (Str × Tr) → Nat → Prop) : Sl → Nat → Prop
  | .oi C' a d fs, n => C' = C ∧ a = x ∧ d = dx ∧ Q fs n
  | _, _ => False
def endsI (C x dx : Addr) (Q : List (Str × Tr) → Nat → Prop) : VEnds := { nx := fun n ρ => oiQ C x dx Q (gt ρ 0) n, rt := fun _ _ => False }
def startI (C x dx : Addr) (N : List Str) (ts : List Tr) : List Sl := .oi C x dx [] :: startT (N.drop 1) ts
theorem ok_vi {g : Gb} {C : Addr} {si : VIp} (F : ByBody P w K mg base f fd ps N qual scope body k) (hm : ps.length = m + 1) (hN : 0 < N.length)
    (hb : ∀ (cdv : Value) (A : Around) (outer : List Env) (s : Shared) (H0 H : Hp) (E : XK) (F0 : FH) (x : XQ), Room k (A.deeper (envOfC qual scope s.heap.objs.size f cdv)) →
      ∃ τ, PSs (cxOf (L2.CX P w) P w K mg base N qual scope f cdv A outer s H E) body (lS ⟨g, F0, H0, E, x⟩ τ) ∧ ∀ ts n Q y dy, ts.length = m → si ts n Q x → τ (endsI C y dy Q) n (startI C y dy N ts)) : FnOk P w K mg base (L2.CX P w) (k + 1) f fd ps (lIp g C m si) := by
  refine F _ (fun vs H Q E h => by rw [hm]; exact h.len) (fun cdv A outer s H vs Q' E hr h => ?_)
  obtain ⟨H0, x, dx, ws, n, F0, ts, Q, xq, e1, nx, nd, ne, e2, oc, hl, sb, r, q, kk, kx⟩ := h
  subst e1
  obtain ⟨τ, h1, h2⟩ := hb cdv A outer s H0 H E F0 xq hr
  obtain ⟨f1, s1⟩ := alloc0 (o := .own x) sb nd
  have nx1 : upd H0 dx (.own x) x = none := by rw [upd_ne (Ne.symm ne)]; exact nx
  obtain ⟨f2, s2⟩ := alloc0 (o := .ins C dx []) s1 nx1
  have ok : Cn.Ok ⟨g, F0, H0, E, xq⟩ := ⟨fun C d fvs fts n F H f' s' xa rf hx => kx C d fvs fts n F H f' s' xa rf hx⟩
  have base := start_rel (Γ := ⟨g, F0, H0, E, xq⟩) (N := N.drop 1) ok (f1.trans f2) s2 r
  rw [← e2] at base
  have hNe : L2.start N (.ref x :: ws) = some (.ref x) :: L2.start (N.drop 1) ws := by
    unfold L2.start
    cases N with
    | nil => cases hN
    | cons y N => simp
  refine ⟨_, h1, startI C x dx N ts, n, F0, endsI C x dx Q, ⟨ok, base.fr, base.sub, ?_, fun i u e => ?_, fun i j a u w hij eu ew ou ow su sw => ?_⟩, h2 ts n Q x dx hl q, ⟨fun ρ' n' F' σ' H' _ rel q' => ?_, fun _ _ _ _ _ _ _ q' => q'.elim, fun _ _ _ _ _ _ _ q' => q'.elim, fun _ _ _ _ _ _ _ _ q' => q'.elim⟩⟩
  · rw [hNe]
    show (startT (N.drop 1) ts).length + 1 = (L2.start (N.drop 1) ws).length + 1
    rw [base.len]
  · rw [hNe]
    cases i with
    | zero =>
      cases e
      exact ⟨_, rfl, [], rfl, by rw [e2]; exact upd_same, sb.free nx, nt_none nx, oc, .nil⟩
    | succ i => exact base.sl i u e
  · have no : ∀ (i : Nat) u, (startI C x dx N ts)[i]? = some u → isOwn u = true → i = 0 := fun i u eu ou => by
      cases i with
      | zero => rfl
      | succ i =>
        exfalso
        have e : (startT (N.drop 1) ts)[i]? = some u := eu
        unfold startT at e
        by_cases h : i < ts.length
        · rw [List.getElem?_append_left (by simpa using h), List.getElem?_map] at e
          cases q : ts[i]? with
          | none => rw [q] at e; cases e
          | some t => rw [q] at e; cases e; cases ou
        · rw [List.getElem?_append_right (by simpa using h), List.getElem?_replicate] at e
          split at e
          · cases e; cases ou
          · cases e
    exact hij ((no i u eu ou).trans (no j w ew ow).symm)
  · show Q' .non H'
    have q2 : oiQ C x dx Q (gt ρ' 0) n' := q'
    cases eg : gt ρ' 0 with
    | oi C' a d fs =>
      rw [eg] at q2
      obtain ⟨rfl, rfl, rfl, q3⟩ := q2
      obtain ⟨o, h1, fvs, h2, h3, h4, h5, c, rf⟩ := rel.sl 0 _ (gt_get eg (fun z => nomatch z))
      exact kk fvs fs n' F' H' rel.fr rel.sub h3 h4 rf q3
    | _ => rw [eg] at q2; exact q2.elim
end
end VL
/-! statements, loops and comprehensions at trees -/
namespace VL
open PySem L2 DS PyProof.Rows
theorem tabs_l {T : List (Addr × Str)} {H : Hp} {l : Addr} {o u : HO} (e : H l = some o) (no : (∀ ps, o ≠ .tbl ps) ∧ (∀ φ, o ≠ .ext φ)) (t : LamX.Tabs T H) : LamX.Tabs T (upd H l u) := fun p hp => by
  obtain ⟨ps, h1, h2, h3⟩ := t p hp
  refine ⟨ps, by rw [upd_ne (ne_of h1 e (by intro z; exact no.1 ps z.symm))]; exact h1, h2, fun pos cv hc => ?_⟩
  obtain ⟨c, e1, e2⟩ := h3 pos cv hc
  exact ⟨c, e1, by rw [upd_ne (ne_of e2 e (by intro z; exact no.2 _ z.symm))]; exact e2⟩
def plainO (o : HO) : Prop := (∀ ps, o ≠ .tbl ps) ∧ (∀ φ, o ≠ .ext φ)
theorem plain_lst (xs : List V) : plainO (.lst xs) := ⟨(fun _ z => nomatch z), (fun _ z => nomatch z)⟩
theorem plain_ins (C dx : Addr) (xs : List (Str × V)) : plainO (.ins C dx xs) := ⟨(fun _ z => nomatch z), (fun _ z => nomatch z)⟩
theorem plain_dK (kvs : List (Key × V)) : plainO (.dK kvs) := ⟨(fun _ z => nomatch z), (fun _ z => nomatch z)⟩
theorem Sub.upd {g : Gb} {n : Nat} {F : FH} {H : Hp} {p : Addr} {o u : HO} (s : Sub g n F H) (e : H p = some o) (po : plainO o) (f : F p = none) : Sub g n F (upd H p u) := by
  refine ⟨fun a w h => ?_, fun a h => ?_, tabs_l e po s.tab, s.nt⟩
  · have h' := hp_eq.mp h
    have q : a ≠ p := fun z => by rw [z, f] at h'; cases h'
    rw [upd_ne q]
    exact s.at_ h'
  · obtain ⟨c, ns, k, l, h1, h2, h3⟩ := (s.pen a h).ex
    refine ⟨c, ns, k, l, ?_, h2, h3⟩
    rw [upd_ne (fun z => by rw [z, f] at h; cases h)]
    exact h1
theorem Fr.updN {F F' : FH} {H H' : Hp} {p : Addr} {o : HO} (f : Fr F H F' H') (e : nt H p = none) : Fr F H F' (upd H' p o) := by
  refine ⟨f.le, f.fresh, fun a w h np no => ?_, fun a h => ?_⟩
  · have ne : a ≠ p := fun z => by rw [z] at h; rw [nt_some h no] at e; cases e
    rw [upd_ne ne]
    exact f.keep a w h np no
  · by_cases q : a = p
    · rw [q, e] at h; exact absurd rfl h
    · rw [nt_upd q]; exact f.there a h
theorem RelSl.upd {g : Gb} {H0 : Hp} {F : FH} {H : Hp} {p : Addr} {o : HO} : ∀ {s : Sl} {x : Option V}, (isOwn s = true → x ≠ some (.ref p)) → RelSl g H0 F H s x → RelSl g H0 F (upd H p o) s x := by
  intro s x n h
  cases s with
  | un => trivial
  | v t => exact h
  | ol xs =>
    obtain ⟨a, vs, e, h1, h2⟩ := h
    refine ⟨a, vs, e, ?_, h2⟩
    rw [upd_ne (fun z => n rfl (by rw [e, z]))]
    exact h1
  | oi C a dx fs =>
    obtain ⟨fvs, e, h1, h2⟩ := h
    refine ⟨fvs, e, ?_, h2⟩
    rw [upd_ne (fun z => n rfl (by rw [e, z]))]
    exact h1
  | od kvs =>
    obtain ⟨a, vs, e, h1, h2⟩ := h
    refine ⟨a, vs, e, ?_, h2⟩
    rw [upd_ne (fun z => n rfl (by rw [e, z]))]
    exact h1
/-- an object of no slot is changed -/
theorem Rel.updD {Γ : Cn} {n : Nat} {ρ : List Sl} {F : FH} {σ : L2.St} {H : Hp} (r : Rel Γ n ρ F σ H) {D : Addr} {o u : HO} (e : H D = some o) (po : plainO o) (f : F D = none) (h0 : nt Γ.H0 D = none) (no : ∀ (j : Nat) s, ρ[j]? = some s → isOwn s = true → σ[j]? ≠ some (some (.ref D))) : Rel Γ n ρ F σ (upd H D u) :=
  ⟨r.ok, r.fr.updN h0, r.sub.upd e po f, r.len, fun i s es => by
    obtain ⟨x, h1, h2⟩ := r.sl i s es
    exact ⟨x, h1, h2.upd fun ow z => no i s es ow (by rw [h1, z])⟩, r.dis⟩
/-- the owned object of a slot is changed -/
theorem Rel.updO {Γ : Cn} {n : Nat} {ρ : List Sl} {F : FH} {σ : L2.St} {H : Hp} (r : Rel Γ n ρ F σ H) {i : Nat} {s0 s1 : Sl} {a : Addr} {o u : HO} (ei : ρ[i]? = some s0) (ow : isOwn s0 = true) (ow1 : isOwn s1 = true) (es : σ[i]? = some (some (.ref a))) (e : H a = some o) (po : plainO o) (f : F a = none) (h0 : nt Γ.H0 a = none) (h1 : RelSl Γ.g Γ.H0 F (L2.upd H a u) s1 (some (.ref a))) : Rel Γ n (ρ.set i s1) F σ (L2.upd H a u) := by
  have get : ∀ (j : Nat) s, (ρ.set i s1)[j]? = some s → (j = i ∧ s = s1) ∨ (j ≠ i ∧ ρ[j]? = some s) := fun j s e => by
    by_cases q : j = i
    · subst q
      rw [List.getElem?_set] at e
      rw [if_pos rfl] at e
      split at e
      · cases e; exact .inl ⟨rfl, rfl⟩
      · cases e
    · rw [List.getElem?_set_ne (Ne.symm q)] at e
      exact .inr ⟨q, e⟩
  refine ⟨r.ok, r.fr.updN h0, r.sub.upd e po f, by rw [List.length_set]; exact r.len, fun j s ej => ?_, fun j k b s w ne ej ek oj ok sj sk => ?_⟩
  · rcases get j s ej with ⟨rfl, rfl⟩ | ⟨q, ej⟩
    · exact ⟨_, es, h1⟩
    · obtain ⟨x, h2, h3⟩ := r.sl j s ej
      exact ⟨x, h2, h3.upd fun oj z => r.dis j i a s s0 q ej ei oj ow (by rw [h2, z]) es⟩
  · rcases get j s ej with ⟨rfl, rfl⟩ | ⟨q, ej'⟩
    · rcases get k w ek with ⟨rfl, rfl⟩ | ⟨q2, ek'⟩
      · exact ne rfl
      · exact r.dis j k b s0 w ne ei ek' ow ok sj sk
    · rcases get k w ek with ⟨rfl, rfl⟩ | ⟨q2, ek'⟩
      · exact r.dis j k b s s0 ne ej' ei oj ow sj sk
      · exact r.dis j k b s w ne ej' ek' oj ok sj sk
/-- a slot gets a new owned object -/
theorem Rel.setO {Γ : Cn} {n : Nat} {ρ : List Sl} {F : FH} {σ : L2.St} {H : Hp} (r : Rel Γ n ρ F σ H) {i : Nat} {s1 : Sl} {p : Addr} {o : HO} (e : H p = none) (h1 : F p = none → nt Γ.H0 p = none → RelSl Γ.g Γ.H0 F (L2.upd H p o) s1 (some (.ref p))) : Rel Γ n (ρ.set i s1) F (σ.set i (some (.ref p))) (L2.upd H p o) := by
  obtain ⟨f2, s2⟩ := alloc0 (o := o) r.sub e
  have r2 := r.go f2 s2
  have fp := r.sub.free e
  have h0 : nt Γ.H0 p = none := by
    cases q : nt Γ.H0 p with
    | none => rfl
    | some w => exact absurd (nt_none e) (r.fr.there p (by rw [q]; intro z; cases z))
  have get : ∀ (j : Nat) s, (ρ.set i s1)[j]? = some s → (j = i ∧ s = s1 ∧ (σ.set i (some (.ref p)))[j]? = some (some (.ref p))) ∨ (j ≠ i ∧ ρ[j]? = some s ∧ (σ.set i (some (.ref p)))[j]? = σ[j]?) := fun j s e => by
    by_cases q : j = i
    · subst q
      rw [List.getElem?_set, if_pos rfl] at e
      split at e
      · rename_i hl
        cases e
        refine .inl ⟨rfl, rfl, ?_⟩
        rw [List.getElem?_set, if_pos rfl, if_pos (by rw [← r.len]; exact hl)]
      · cases e
    · rw [List.getElem?_set_ne (Ne.symm q)] at e
      exact .inr ⟨q, e, List.getElem?_set_ne (Ne.symm q)⟩
  have away : ∀ (j : Nat) s, ρ[j]? = some s → isOwn s = true → σ[j]? ≠ some (some (.ref p)) := fun j s ej oj z => by
    obtain ⟨x, h2, h3⟩ := r.sl j s ej
    rw [z] at h2
    cases h2
    have : ∃ u, H p = some u := by
      cases s with
      | un => cases oj
      | v t => cases oj
      | ol xs => obtain ⟨a, vs, e', h, _⟩ := h3; cases e'; exact ⟨_, h⟩
      | oi C a dx fs => obtain ⟨fvs, e', h, _⟩ := h3; cases e'; exact ⟨_, h⟩
      | od kvs => obtain ⟨a, vs, e', h, _⟩ := h3; cases e'; exact ⟨_, h⟩
    obtain ⟨u, hu⟩ := this
    rw [hu] at e
    cases e
  refine ⟨r.ok, r2.fr, r2.sub, by simp [r.len], fun j s ej => ?_, fun j k b s w ne ej ek oj ok sj sk => ?_⟩
  · rcases get j s ej with ⟨rfl, rfl, g3⟩ | ⟨q, ej', g3⟩
    · exact ⟨_, g3, h1 fp h0⟩
    · rw [g3]; exact r2.sl j s ej'
  · rcases get j s ej with ⟨rfl, rfl, g3⟩ | ⟨q, ej', g3⟩
    · rcases get k w ek with ⟨rfl, rfl, g4⟩ | ⟨q2, ek', g4⟩
      · exact ne rfl
      · rw [g3] at sj; cases sj
        rw [g4] at sk
        exact away k w ek' ok sk
    · rcases get k w ek with ⟨rfl, rfl, g4⟩ | ⟨q2, ek', g4⟩
      · rw [g4] at sk; cases sk
        rw [g3] at sj
        exact away j s ej' oj sj
      · rw [g3] at sj; rw [g4] at sk
        exact r.dis j k b s w ne ej' ek' oj ok sj sk
/-- an owned object of a slot is frozen, told where -/
theorem Rel.frzK {Γ : Cn} {n : Nat} {ρ : List Sl} {F : FH} {σ : L2.St} {H : Hp} (r : Rel Γ n ρ F σ H) {i : Nat} {a : Addr} {o : HO} {t : Tr} {s0 : Sl} (ei : ρ[i]? = some s0) (ow : isOwn s0 = true) (es : σ[i]? = some (some (.ref a))) (e : H a = some o) (no : ∀ ps, o ≠ .tbl ps) (f : F a = none) (h0 : nt Γ.H0 a = none) (rp : ∀ F', le F F' → F' a = some (.ob o) → Rep Γ.g F' (.ref a) t) : Rel Γ n (ρ.set i (.v t)) (updF F a (.ob o)) σ H := by
  obtain ⟨l, s2⟩ := freeze r.sub e f no
  have hσ : σ.set i (some (.ref a)) = σ := by
    refine List.ext_getElem? fun j => ?_
    by_cases q : j = i
    · subst q
      rw [List.getElem?_set, if_pos rfl, es]
      split
      · rfl
      · rename_i hl
        rw [List.getElem?_eq_none (by omega)] at es
        cases es
    · rw [List.getElem?_set_ne (Ne.symm q)]
  have base : Rel Γ n (ρ.set i .un) (updF F a (.ob o)) σ H := by
    refine ⟨r.ok, r.fr.frz h0 f, s2, by simp [r.len], fun j s ej => ?_, fun j k b s w ne ej ek oj ok sj sk => ?_⟩
    · by_cases q : j = i
      · subst q
        rw [List.getElem?_set, if_pos rfl] at ej
        split at ej
        · cases ej; exact ⟨_, es, trivial⟩
        · cases ej
      · rw [List.getElem?_set_ne (Ne.symm q)] at ej
        obtain ⟨x, h2, h3⟩ := r.sl j s ej
        refine ⟨x, h2, ?_⟩
        have na : isOwn s = true → x ≠ some (.ref a) := fun oj z => r.dis j i a s s0 q ej ei oj ow (by rw [h2, z]) es
        cases s with
        | un => trivial
        | v t => obtain ⟨v, e', h⟩ := h3; exact ⟨v, e', h.mono l⟩
        | ol xs =>
          obtain ⟨c, vs, e', g1, g2, g3, g4⟩ := h3
          exact ⟨c, vs, e', g1, by rw [updF_ne (fun z => na rfl (by rw [e', z]))]; exact g2, g3, g4.mono l⟩
        | oi C c dx fs =>
          obtain ⟨fvs, e', g1, g2, g3, g4, g5⟩ := h3
          exact ⟨fvs, e', g1, by rw [updF_ne (fun z => na rfl (by rw [e', z]))]; exact g2, g3, g4, g5.mono l⟩
        | od kvs =>
          obtain ⟨c, vs, e', g1, g2, g3, g4⟩ := h3
          exact ⟨c, vs, e', g1, by rw [updF_ne (fun z => na rfl (by rw [e', z]))]; exact g2, g3, g4.mono l⟩
    · have nj : j ≠ i := fun z => by
        subst z
        rw [List.getElem?_set, if_pos rfl] at ej
        split at ej
        · cases ej; cases oj
        · cases ej
      have nk : k ≠ i := fun z => by
        subst z
        rw [List.getElem?_set, if_pos rfl] at ek
        split at ek
        · cases ek; cases ok
        · cases ek
      rw [List.getElem?_set_ne (Ne.symm nj)] at ej
      rw [List.getElem?_set_ne (Ne.symm nk)] at ek
      exact r.dis j k b s w ne ej ek oj ok sj sk
  have := base.set (i := i) (rp _ l updF_same)
  rw [hσ, List.set_set] at this
  exact this
/-- a slot's owned list is frozen -/
def frzS : Sl → Sl
  | .ol xs => .v (.lst xs)
  | .od kvs => .v (.dct kvs)
  | s => s
def frz (i : Nat) (ρ : List Sl) : List Sl := ρ.set i (frzS (gt ρ i))
theorem Rel.frz {Γ : Cn} {n : Nat} {ρ : List Sl} {F : FH} {σ : L2.St} {H : Hp} (r : Rel Γ n ρ F σ H) (i : Nat) : ∃ F', le F F' ∧ Rel Γ n (VL.frz i ρ) F' σ H := by
  have key : ∀ {a : Addr} {o : HO} {t : Tr} {s0 : Sl}, ρ[i]? = some s0 → isOwn s0 = true → σ[i]? = some (some (.ref a)) → H a = some o → (∀ ps, o ≠ .tbl ps) → F a = none → nt Γ.H0 a = none → (∀ F', le F F' → F' a = some (.ob o) → Rep Γ.g F' (.ref a) t) → ∃ F', le F F' ∧ Rel Γ n (ρ.set i (.v t)) F' σ H := fun ei ow es e no f h0 rp => ⟨_, (freeze r.sub e f no).1, r.frzK ei ow es e no f h0 rp⟩
  cases eg : gt ρ i with
  | ol xs =>
    have ei := gt_get eg (fun z => nomatch z)
    obtain ⟨x, h1, a, vs, e, g1, g2, g3, g4⟩ := r.sl i _ ei
    subst e
    have := key ei rfl h1 g1 (fun _ z => nomatch z) g2 g3 (t := .lst xs) (fun F' l h => .lst h (g4.mono l))
    unfold VL.frz
    rw [eg]
    exact this
  | od kvs =>
    have ei := gt_get eg (fun z => nomatch z)
    obtain ⟨x, h1, a, vs, e, g1, g2, g3, g4⟩ := r.sl i _ ei
    subst e
    have := key ei rfl h1 g1 (fun _ z => nomatch z) g2 g3 (t := .dct kvs) (fun F' l h => .dct h (g4.mono l))
    unfold VL.frz
    rw [eg]
    exact this
  | un =>
    refine ⟨F, le.refl _, ?_⟩
    unfold VL.frz
    rw [eg]
    show Rel Γ n (ρ.set i .un) F σ H
    refine ⟨r.ok, r.fr, r.sub, by simp [r.len], fun j s ej => ?_, fun j k b s w ne ej ek oj ok sj sk => ?_⟩
    · by_cases q : j = i
      · subst q
        rw [List.getElem?_set, if_pos rfl] at ej
        split at ej
        · rename_i hl
          cases ej
          rw [r.len] at hl
          exact ⟨σ[j], List.getElem?_eq_getElem hl, trivial⟩
        · cases ej
      · rw [List.getElem?_set_ne (Ne.symm q)] at ej
        exact r.sl j s ej
    · have nj : j ≠ i := fun z => by
        subst z
        rw [List.getElem?_set, if_pos rfl] at ej
        split at ej
        · cases ej; cases oj
        · cases ej
      have nk : k ≠ i := fun z => by
        subst z
        rw [List.getElem?_set, if_pos rfl] at ek
        split at ek
        · cases ek; cases ok
        · cases ek
      rw [List.getElem?_set_ne (Ne.symm nj)] at ej
      rw [List.getElem?_set_ne (Ne.symm nk)] at ek
      exact r.dis j k b s w ne ej ek oj ok sj sk
  | v t =>
    have ei := gt_get eg (fun z => nomatch z)
    refine ⟨F, le.refl _, ?_⟩
    unfold VL.frz
    rw [eg]
    show Rel Γ n (ρ.set i (.v t)) F σ H
    rw [show ρ.set i (.v t) = ρ from List.ext_getElem? fun j => by
      by_cases q : j = i
      · subst q
        rw [List.getElem?_set, if_pos rfl, ei]
        split
        · rfl
        · rename_i hl; rw [List.getElem?_eq_none (by omega)] at ei; cases ei
      · rw [List.getElem?_set_ne (Ne.symm q)]]
    exact r
  | oi C a dx fs =>
    have ei := gt_get eg (fun z => nomatch z)
    refine ⟨F, le.refl _, ?_⟩
    unfold VL.frz
    rw [eg]
    show Rel Γ n (ρ.set i (.oi C a dx fs)) F σ H
    rw [show ρ.set i (.oi C a dx fs) = ρ from List.ext_getElem? fun j => by
      by_cases q : j = i
      · subst q
        rw [List.getElem?_set, if_pos rfl, ei]
        split
        · rfl
        · rename_i hl; rw [List.getElem?_eq_none (by omega)] at ei; cases ei
      · rw [List.getElem?_set_ne (Ne.symm q)]]
    exact r
end VL
/-! statements, loops and comprehensions at trees: the rules -/
namespace VL
open PySem L2 DS PyProof.Rows
theorem EndsOk.le {Γ : Cn} {F F' : FH} {D : VEnds} {D' : Ends} (o : EndsOk Γ F D D') (l : VL.le F F') : EndsOk Γ F' D D' :=
  ⟨fun ρ n F2 σ H l2 r q => o.nx ρ n F2 σ H (l.trans l2) r q, fun ρ n F2 σ H l2 r q => o.bk ρ n F2 σ H (l.trans l2) r q, fun ρ n F2 σ H l2 r q => o.ct ρ n F2 σ H (l.trans l2) r q, o.rt⟩
def vNext : RS := fun D n ρ => D.nx n ρ
def vSeq (t u : RS) : RS := fun D n ρ => t { D with nx := u D } n ρ
def vBreak : RS := fun D n ρ => D.bk n ρ
def vCont : RS := fun D n ρ => D.ct n ρ
def vDrop (e : RE) : RS := fun D n ρ => e n ρ fun _ n1 => D.nx n1 ρ
def vRet (e : RE) : RS := fun D n ρ => e n ρ D.rt
def vRetN : RS := fun D n _ => D.rt .non n
def brS (b : Bool) (t u : RS) (D : VEnds) (n : Nat) (ρ : List Sl) : Prop := if b = true then t D n ρ else u D n ρ
def vIfS (c : RT) (t u : RS) : RS := fun D n ρ => c n ρ fun b n1 => brS b t u D n1 ρ
def vSet (i : Nat) (e : RE) : RS := fun D n ρ => e n ρ fun t n1 => D.nx n1 (ρ.set i (.v t))
def vFrz (i : Nat) (u : RS) : RS := fun D n ρ => u D n (frz i ρ)
section
variable {X : Cx} {Γ : Cn} {st : Stmt} {rest : List Stmt} {t u : RS} {e : Expr} {te : RE} {pos : Pos} {i : Nat} {x : Str}
theorem vss_nil : PSs X [] (lS Γ vNext) := PSs.imp pss_nil fun D' σ H ⟨ρ, n, F, D, rel, h, ok⟩ => ok.nx ρ n F σ H (le.refl _) rel h
theorem vss_cons (h1 : PS X st (lS Γ t)) (h2 : PSs X rest (lS Γ u)) : PSs X (st :: rest) (lS Γ (vSeq t u)) := PSs.imp (pss_cons h1 h2) fun D' σ H ⟨ρ, n, F, D, rel, h, ok⟩ =>
  ⟨ρ, n, F, { D with nx := u D }, rel, h, ⟨fun ρ' n' F' σ' H' l rel' q => ⟨ρ', n', F', D, rel', q, ok.le l⟩, ok.bk, ok.ct, ok.rt⟩⟩
theorem vss_one (h1 : PS X st (lS Γ t)) : PSs X [st] (lS Γ t) := pss_one h1
theorem vss_frz (i : Nat) (h : PSs X rest (lS Γ u)) : PSs X rest (lS Γ (vFrz i u)) := PSs.imp h fun D' σ H ⟨ρ, n, F, D, rel, h, ok⟩ => by
  obtain ⟨F', l, r⟩ := rel.frz i
  exact ⟨_, n, F', D, r, h, ok.le l⟩
theorem vs_pass : PS X (.Pass pos) (lS Γ vNext) := PS.imp ps_pass fun D' σ H ⟨ρ, n, F, D, rel, h, ok⟩ => ok.nx ρ n F σ H (le.refl _) rel h
theorem vs_break : PS X (.Break pos) (lS Γ vBreak) := PS.imp ps_break fun D' σ H ⟨ρ, n, F, D, rel, h, ok⟩ => ok.bk ρ n F σ H (le.refl _) rel h
theorem vs_continue : PS X (.Continue pos) (lS Γ vCont) := PS.imp ps_continue fun D' σ H ⟨ρ, n, F, D, rel, h, ok⟩ => ok.ct ρ n F σ H (le.refl _) rel h
theorem vs_doc {x j pos'} : PS X (.Expr (.Constant (.str x) j pos) pos') (lS Γ vNext) := PS.imp ps_doc fun D' σ H ⟨ρ, n, F, D, rel, h, ok⟩ => ok.nx ρ n F σ H (le.refl _) rel h
theorem vs_expr (he : PE X e (lE Γ te)) (hs : swapsWith e none pos.line X.env = pure false := by rfl) : PS X (.Expr e pos) (lS Γ (vDrop te)) := PS.imp (ps_expr he hs) fun D' σ H ⟨ρ, n, F, D, rel, h, ok⟩ =>
  ⟨ρ, n, F, _, rel, h, fun v t n1 F1 H1 f1 s1 r1 q1 => ok.nx ρ n1 F1 σ H1 f1.le (rel.go f1 s1) q1⟩
theorem vs_ret (he : PE X e (lE Γ te)) : PS X (.Return (some e) pos) (lS Γ (vRet te)) := PS.imp (ps_ret he) fun D' σ H ⟨ρ, n, F, D, rel, h, ok⟩ =>
  ⟨ρ, n, F, _, rel, h, fun v t n1 F1 H1 f1 s1 r1 q1 => ok.rt v t n1 F1 H1 (rel.fr.trans f1) s1 r1 q1⟩
theorem vs_retN : PS X (.Return none pos) (lS Γ vRetN) := PS.imp ps_retN fun D' σ H ⟨ρ, n, F, D, rel, h, ok⟩ => ok.rt .non .non n F H rel.fr rel.sub .non h
theorem vs_if {c : Expr} {a b : List Stmt} {tc : RT} (hc : PT X c (lT Γ tc)) (ha : PSs X a (lS Γ t)) (hb : PSs X b (lS Γ u)) : PS X (.If c a b pos) (lS Γ (vIfS tc t u)) := PS.imp (ps_if hc ha hb) fun D' σ H ⟨ρ, n, F, D, rel, h, ok⟩ =>
  ⟨ρ, n, F, _, rel, h, fun b n1 F1 H1 f1 s1 q1 => by
    cases b with
    | true => exact iteT ⟨ρ, n1, F1, D, rel.go f1 s1, (show t D n1 ρ from q1), ok.le f1.le⟩
    | false => exact iteF ⟨ρ, n1, F1, D, rel.go f1 s1, (show u D n1 ρ from q1), ok.le f1.le⟩⟩
theorem set_in {D' : Ends} {σ : L2.St} {H : Hp} (h : lS Γ (vSet i te) D' σ H) : tAsg (lE Γ te) (gName i) D' σ H := by
  obtain ⟨ρ, n, F, D, rel, h, ok⟩ := h
  exact ⟨ρ, n, F, _, rel, h, fun v t n1 F1 H1 f1 s1 r1 q1 => ok.nx _ n1 F1 _ H1 f1.le ((rel.go f1 s1).set r1) q1⟩
theorem vs_set {pos' : Pos} (hN : X.N.Nodup) (hi : X.N[i]? = some x) (hx : Loc X.env.scope x) (he : PE X e (lE Γ te)) (hs : swapsWith e (some (.Name x pos')) pos.line X.env = pure false := by rfl) (hf : X.fn x = true ∨ X.env.scope.names.lookup x = some .local := by first | exact .inl rfl | exact .inr rfl | assumption) :
    PS X (.Assign [.Name x pos'] e pos) (lS Γ (vSet i te)) := PS.imp (ps_set hN hi hx he hs hf) fun D' σ H h => set_in h
/-- x = [..], a list that will be changed -/
def vSetOL (i : Nat) (l : RA) : RS := fun D n ρ => l n ρ fun ts n1 => ts.length ≤ sizeLine ∧ D.nx n1 (ρ.set i (.ol ts))
theorem vs_setOL {pos' : Pos} {es : List Expr} {tl : RA} (hN : X.N.Nodup) (hi : X.N[i]? = some x) (hx : Loc X.env.scope x) (he : PA X es (lA Γ tl)) (hs : swapsWith (.List es pos') (some (.Name x pos')) pos.line X.env = pure false := by rfl) {p2 p3 : Pos} (hs2 : swapsWith (.List es p2) (some (.Name x p3)) pos.line X.env = pure false := by rfl) (hf : X.fn x = true ∨ X.env.scope.names.lookup x = some .local := by first | exact .inl rfl | exact .inr rfl | assumption) :
    PS X (.Assign [.Name x p3] (.List es p2) pos) (lS Γ (vSetOL i tl)) := PS.imp (ps_set hN hi hx (pe_lst he) hs2 hf) fun D' σ H ⟨ρ, n, F, D, rel, h, ok⟩ =>
  ⟨ρ, n, F, _, rel, h, fun vs ts n1 F1 H1 f1 s1 r1 q1 => ⟨by rw [r1.length]; exact q1.1, fun p hp => ok.nx _ n1 F1 _ _ f1.le ((rel.go f1 s1).setO (s1 := .ol ts) hp fun a b => ⟨p, vs, rfl, upd_same, a, b, r1⟩) q1.2⟩⟩
/-! ### targets -/
def gNm (i : Nat) : RG := fun t n ρ Q => Q n (ρ.set i (.v t))
def gNil : RGs
  | [], n, ρ, Q => Q n ρ
  | _ :: _, _, _, _ => False
def gCons (g : RG) (gs : RGs) : RGs
  | t :: ts, n, ρ, Q => g t n ρ fun n1 ρ1 => gs ts n1 ρ1 Q
  | [], _, _, _ => False
def gTup (gs : RGs) : RG
  | .tup ts, n, ρ, Q => gs ts n ρ Q
  | _, _, _, _ => False
theorem wipe_set (x : Option V) (i : Nat) : ∀ (σ : L2.St) (vs : List Nat), wipe (σ.set i x) vs = if i ∈ vs then wipe σ vs else (wipe σ vs).set i x
  | σ, [] => by simp [wipe]
  | σ, v :: vs => by
    unfold wipe
    rw [wipe_set x i σ vs]
    by_cases h : i = v
    · subst h
      by_cases h2 : i ∈ vs
      · simp [h2]
      · simp [h2]
    · by_cases h2 : i ∈ vs
      · simp [h, h2]
      · simp only [h2, if_false, List.mem_cons, h, false_or]
        rw [List.set_comm _ _ h]
theorem vg_name {vs : List Nat} (hv : i ∈ vs) (hN : X.N.Nodup) (hi : X.N[i]? = some x) (hx : Loc X.env.scope x) (hf : X.fn x = true ∨ X.env.scope.names.lookup x = some .local := by first | exact .inl rfl | exact .inr rfl | assumption) : PG X (.Name x pos) (lG Γ vs (gNm i)) :=
  PG.imp (pg_name hN hi hx hf) fun v σ H Q' ⟨ρ, n, F, t, Q, rel, r, h, k⟩ => k _ _ (rel.set r) (by rw [wipe_set, if_pos hv]) h
theorem vgs_nil {vs : List Nat} : PGs X [] (lGs Γ vs gNil) := PGs.imp pgs_nil fun ws σ H Q' ⟨ρ, n, F, ts, Q, rel, r, h, k⟩ => by
  cases r with
  | nil => exact ⟨rfl, k σ ρ rel rfl h⟩
  | cons _ _ => exact h.elim
theorem vgs_cons {vs : List Nat} {es : List Expr} {g : RG} {gs : RGs} (h1 : PG X e (lG Γ vs g)) (h2 : PGs X es (lGs Γ vs gs)) (hs : (assignEach (e :: es) X.env).map (·.2) = assign e X.env :: (assignEach es X.env).map (·.2) := by rfl) : PGs X (e :: es) (lGs Γ vs (gCons g gs)) :=
  PGs.imp (pgs_cons h1 h2 hs) fun ws σ H Q' ⟨ρ, n, F, ts, Q, rel, r, h, k⟩ => by
    cases r with
    | nil => exact h.elim
    | cons r1 r2 => exact ⟨_, _, rfl, ρ, n, F, _, _, rel, r1, h, fun σ2 ρ2 rel2 w2 q2 => ⟨ρ2, n, F, _, _, rel2, r2, q2, fun σ3 ρ3 rel3 w3 q3 => k σ3 ρ3 rel3 (w3.trans w2) q3⟩⟩
def gTupN (k : Nat) (gs : RGs) : RG
  | .tup ts, n, ρ, Q => ts.length = k ∧ gs ts n ρ Q
  | _, _, _, _ => False
theorem vg_tup {vs : List Nat} {es : List Expr} {k : Nat} {gs : RGs} {m : Nat} (hK : X.K = Γ.g.K) (hc : X.calm = true) (h : PGs X es (lGs Γ vs gs)) (hn : (assignEach es X.env).length = m := by rfl) (hst : (assignEach es X.env).findIdx? (·.1) = none := by rfl) : PG X (.Tuple es k pos) (lG Γ vs (gTupN m gs)) :=
  PG.imp (pg_tup hc h hn hst) fun v σ H Q' ⟨ρ, n, F, t, Q, rel, r, h, k⟩ => by
    cases r with
    | tup q r => exact ⟨_, _, rfl, by rw [hK]; exact sqT_sub rel.sub q, by rw [r.length]; exact h.1, ρ, n, F, _, _, rel, r, h.2, k⟩
    | _ => exact h.elim
def vAsg (e : RE) (g : RG) : RS := fun D n ρ => e n ρ fun t n1 => g t n1 ρ D.nx
theorem vs_asg {vs : List Nat} {tg : Expr} {g : RG} (he : PE X e (lE Γ te)) (hg : PG X tg (lG Γ vs g)) (hs : swapsWithSole [tg] e pos.line X.env = pure false := by rfl) (hw : swappedStores [tg] e X.env = pure none := by rfl)
    (h1 : (assignEach [tg] X.env).map (·.2) = [assign tg X.env] := by rfl) : PS X (.Assign [tg] e pos) (lS Γ (vAsg te g)) := PS.imp (ps_asg he hg hs hw h1) fun D' σ H ⟨ρ, n, F, D, rel, h, ok⟩ =>
  ⟨ρ, n, F, _, rel, h, fun v t n1 F1 H1 f1 s1 r1 q1 => ⟨ρ, n1, F1, t, _, rel.go f1 s1, r1, q1, fun σ2 ρ2 rel2 w2 q2 => ok.nx ρ2 n1 F1 σ2 H1 f1.le rel2 q2⟩⟩
/-- a, b = e, f -/
def parQ (i j : Nat) (D : VEnds) (ρ : List Sl) : List Tr → Nat → Prop
  | [a, b], n => D.nx n ((ρ.set i (.v a)).set j (.v b))
  | _, _ => False
def vPar (i j : Nat) (l : RA) : RS := fun D n ρ => l n ρ fun ts n1 => parQ i j D ρ ts n1
theorem Reps.two {g : Gb} {F : FH} {vs : List V} {a b : Tr} (r : Reps g F vs [a, b]) : ∃ v w, vs = [v, w] ∧ Rep g F v a ∧ Rep g F w b := by
  cases r with | cons r1 r => cases r with | cons r2 r => cases r with | nil => exact ⟨_, _, rfl, r1, r2⟩
theorem Reps.three {g : Gb} {F : FH} {vs : List V} {a b c : Tr} (r : Reps g F vs [a, b, c]) : ∃ v w z, vs = [v, w, z] ∧ Rep g F v a ∧ Rep g F w b ∧ Rep g F z c := by
  cases r with | cons r1 r => cases r with | cons r2 r => cases r with | cons r3 r => cases r with | nil => exact ⟨_, _, _, rfl, r1, r2, r3⟩
theorem par_in {j : Nat} {tl : RA} {D' : Ends} {σ : L2.St} {H : Hp} (h : lS Γ (vPar i j tl) D' σ H) : tPar i j (lA Γ tl) D' σ H := by
  obtain ⟨ρ, n, F, D, rel, h, ok⟩ := h
  refine ⟨ρ, n, F, _, rel, h, fun vs ts n1 F1 H1 f1 s1 r1 q1 => ?_⟩
  match ts, q1, r1 with
  | [a, b], q1, r1 =>
    obtain ⟨v, w, rfl, ra, rb⟩ := r1.two
    exact ⟨v, w, rfl, ok.nx _ n1 F1 _ H1 f1.le (((rel.go f1 s1).set ra).set rb) q1⟩
def par3Q (i j l : Nat) (D : VEnds) (ρ : List Sl) : List Tr → Nat → Prop
  | [a, b, c], n => D.nx n (((ρ.set i (.v a)).set j (.v b)).set l (.v c))
  | _, _ => False
def vPar3 (i j l : Nat) (t : RA) : RS := fun D n ρ => t n ρ fun ts n1 => par3Q i j l D ρ ts n1
theorem par3_in {j l : Nat} {tl : RA} {D' : Ends} {σ : L2.St} {H : Hp} (h : lS Γ (vPar3 i j l tl) D' σ H) : tPar3 i j l (lA Γ tl) D' σ H := by
  obtain ⟨ρ, n, F, D, rel, h, ok⟩ := h
  refine ⟨ρ, n, F, _, rel, h, fun vs ts n1 F1 H1 f1 s1 r1 q1 => ?_⟩
  match ts, q1, r1 with
  | [a, b, c], q1, r1 =>
    obtain ⟨v, w, z, rfl, ra, rb, rc⟩ := r1.three
    exact ⟨v, w, z, rfl, ok.nx _ n1 F1 _ H1 f1.le ((((rel.go f1 s1).set ra).set rb).set rc) q1⟩
theorem vs_of {t' : TS} (h : PS X st t') (i : ∀ D' σ H, lS Γ t D' σ H → t' D' σ H) : PS X st (lS Γ t) := PS.imp h i
/-! ### while -/
def wN (W : Nat → Nat → List Sl → Prop) (m : Nat) : Nat → List Sl → Prop := fun n ρ => ∃ m', m' < m ∧ W m' n ρ
def vWhile (c : RT) (tb : RS) : RS := fun D n ρ => ∃ W : Nat → Nat → List Sl → Prop, (∃ m, W m n ρ) ∧ ∀ m n ρ, W m n ρ → c n ρ fun b n1 => if b = true then tb { D with nx := wN W m, ct := wN W m, bk := D.nx } n1 ρ else D.nx n1 ρ
theorem vs_while {c : Expr} {body : List Stmt} {tc : RT} {tb : RS} (hp : PassesOwn (model X.prog X.w) X.A X.env X.xe) (hc : PT X c (lT Γ tc)) (hb : PSs X body (lS Γ tb)) : PS X (.While c body [] pos) (lS Γ (vWhile tc tb)) := PS.imp (ps_while hp hc hb) fun D' σ H ⟨ρ, n, F, D, rel, ⟨W, ⟨m0, w0⟩, turn⟩, ok⟩ => by
  refine ⟨fun m σ H => ∃ ρ n F', le F F' ∧ Rel Γ n ρ F' σ H ∧ W m n ρ, ⟨m0, ρ, n, F, le.refl _, rel, w0⟩, ?_⟩
  rintro m σ H ⟨ρ, n, F', l, rel, w⟩
  refine ⟨ρ, n, F', _, rel, turn m n ρ w, fun b n1 F1 H1 f1 s1 q1 => ?_⟩
  cases b with
  | true =>
    refine iteT ⟨fun σ' H' => ∃ m', m' < m ∧ ∃ ρ n F', le F F' ∧ Rel Γ n ρ F' σ' H' ∧ W m' n ρ, fun σ' H' h => h, ρ, n1, F1, _, rel.go f1 s1, q1, ?_⟩
    have l1 := l.trans f1.le
    have again : ThenS Γ F1 (wN W m) (fun σ' H' => ∃ m', m' < m ∧ ∃ ρ n F', le F F' ∧ Rel Γ n ρ F' σ' H' ∧ W m' n ρ) := fun ρ2 n2 F2 σ2 H2 l2 r2 ⟨m', hm, w'⟩ => ⟨m', hm, ρ2, n2, F2, l1.trans l2, r2, w'⟩
    exact ⟨again, fun ρ2 n2 F2 σ2 H2 l2 r2 q2 => ok.nx ρ2 n2 F2 σ2 H2 (l1.trans l2) r2 q2, again, ok.rt⟩
  | false => exact iteF (ok.nx ρ n1 F1 σ H1 (l.trans f1.le) (rel.go f1 s1) q1)
/-! ### for -/
structure ItV (g : Gb) (F : FH) (J : It) (ts : List Tr) : Prop where
  stop : ∀ n F' H, le F F' → Sub g n F' H → J.stop ts.length H
  go : ∀ (i n : Nat) F' H, i < ts.length → le F F' → Sub g n F' H → J.go i H
  yld : ∀ (i : Nat) t n F' H x H', ts[i]? = some t → le F F' → Sub g n F' H → J.yld i H x H' → ∃ F2, Fr F' H F2 H' ∧ Sub g n F2 H' ∧ Rep g F2 x t
def lI (Γ : Cn) (it : RA) : TI := fun σ H R => ∃ ρ n F Q, Rel Γ n ρ F σ H ∧ it n ρ Q ∧ ∀ J ts n' F' H', Fr F H F' H' → Sub Γ.g n' F' H' → ItV Γ.g F' J ts → Q ts n' → R J H'
theorem PI.imp {tg iter : Expr} {wi wi' : TI} (h : PI X tg iter wi) (i : ∀ σ H R, wi' σ H R → wi σ H R) : PI X tg iter wi' := ⟨fun pins s σ H R I q => h.run pins s σ H R I (i _ _ _ q)⟩
def forW (g : RG) (tb : RS) (D : VEnds) : List Tr → Nat → List Sl → Prop
  | [], n, ρ => D.nx n ρ
  | t :: ts, n, ρ => g t n ρ fun n1 ρ1 => tb { D with nx := forW g tb D ts, ct := forW g tb D ts, bk := D.nx } n1 ρ1
def vFor (it : RA) (g : RG) (tb : RS) : RS := fun D n ρ => it n ρ fun ts n1 => forW g tb D ts n1 ρ
theorem vs_for {tg iter : Expr} {body : List Stmt} {it : RA} {g : RG} {tb : RS} {vs : List Nat} (hp : PassesOwn (model X.prog X.w) X.A X.env X.xe) (hc : X.calm = true) (hi : PI X tg iter (lI Γ it)) (hg : PG X tg (lG Γ vs g)) (hb : PSs X body (lS Γ tb))
    (hs : ∀ x, foldedSetIterable iter X.env x = pure x := by intro _; rfl) : PS X (.For tg iter body [] pos) (lS Γ (vFor it g tb)) := PS.imp (ps_for hp hc hi hg hb hs) fun D' σ H ⟨ρ, n, F, D, rel, h, ok⟩ => by
  refine ⟨ρ, n, F, _, rel, h, fun J ts n1 F1 H1 f1 s1 iv q1 => ?_⟩
  refine ⟨fun i m σ H => i + m = ts.length ∧ ∃ ρ n F', le F1 F' ∧ Rel Γ n ρ F' σ H ∧ forW g tb D (ts.drop i) n ρ, ⟨ts.length, by omega, ρ, n1, F1, le.refl _, rel.go f1 s1, q1⟩, ?_⟩
  rintro i m σ H ⟨hm, ρ, n, F', l, rel, w⟩
  by_cases hi : i < ts.length
  · rw [List.drop_eq_getElem_cons hi] at w
    refine .inr ⟨iv.go i n F' H hi l rel.sub, fun σ' H' => i + 1 + (m - 1) = ts.length ∧ ∃ ρ n F', le F1 F' ∧ Rel Γ n ρ F' σ' H' ∧ forW g tb D (ts.drop (i + 1)) n ρ, fun σ' H' h => ⟨m - 1, by omega, h⟩, fun x H' y => ?_⟩
    obtain ⟨F2, f2, s2, r2⟩ := iv.yld i ts[i] n F' H x H' (List.getElem?_eq_getElem hi) l rel.sub y
    refine ⟨ρ, n, F2, ts[i], _, rel.go f2 s2, r2, w, fun σ3 ρ3 rel3 w3 q3 => ⟨ρ3, n, F2, _, rel3, q3, ?_⟩⟩
    have l2 := l.trans f2.le
    have again : ThenS Γ F2 (forW g tb D (ts.drop (i + 1))) (fun σ' H' => i + 1 + (m - 1) = ts.length ∧ ∃ ρ n F', le F1 F' ∧ Rel Γ n ρ F' σ' H' ∧ forW g tb D (ts.drop (i + 1)) n ρ) := fun ρ4 n4 F4 σ4 H4 l4 r4 q4 => ⟨by omega, ρ4, n4, F4, l2.trans l4, r4, q4⟩
    exact ⟨again, fun ρ4 n4 F4 σ4 H4 l4 r4 q4 => ok.nx ρ4 n4 F4 σ4 H4 ((f1.le.trans l2).trans l4) r4 q4, again, ok.rt⟩
  · have e : i = ts.length := by omega
    subst e
    rw [List.drop_length] at w
    exact .inl ⟨iv.stop n F' H l rel.sub, ok.nx ρ n F' σ H (f1.le.trans l) rel w⟩
/-! ### what is walked -/
def lstQ : Tr → Nat → (List Tr → Nat → Prop) → Prop
  | .lst ts, n, Q => Q ts n
  | _, _, _ => False
def tupQ : Tr → Nat → (List Tr → Nat → Prop) → Prop
  | .tup ts, n, Q => Q ts n
  | _, _, _ => False
def iLst (e : RE) : RA := fun n ρ Q => e n ρ fun t n1 => lstQ t n1 Q
def iTup (e : RE) : RA := fun n ρ Q => e n ρ fun t n1 => tupQ t n1 Q
theorem itv_list {g : Gb} {F : FH} {a : Addr} {vs : List V} {ts : List Tr} (e : F a = some (.ob (.lst vs))) (r : Reps g F vs ts) : ItV g F (Itl g.K a) ts := by
  have sq : ∀ {n F' H}, le F F' → Sub g n F' H → SqL g.K H a vs := fun l s => .inl (.inl (s.at_ (l _ _ e)))
  refine ⟨fun n F' H l s => ⟨vs, sq l s, by rw [r.length]; exact Nat.le_refl _⟩, fun i n F' H hi l s => ?_, fun i t n F' H x H' ht l s y => ?_⟩
  · exact ⟨vs, vs[i]'(by rw [r.length]; exact hi), sq l s, List.getElem?_eq_getElem _⟩
  · obtain ⟨e1, y⟩ := y
    subst e1
    obtain ⟨v, hv, rv⟩ := r.get i ht
    have := y vs (sq l s)
    rw [hv] at this
    cases this
    exact ⟨F', Fr.refl _ _, s, rv.mono l⟩
theorem itv_tup {g : Gb} {F : FH} {a : Addr} {vs : List V} {ts : List Tr} (e : SqT g.K (hp F) a vs) (r : Reps g F vs ts) : ItV g F (Itt g.K a) ts := by
  have sq : ∀ {n F' H}, le F F' → Sub g n F' H → SqT g.K H a vs := fun l s => sqT_sub s (sqT_same l.hp e)
  refine ⟨fun n F' H l s => ⟨vs, sq l s, by rw [r.length]; exact Nat.le_refl _⟩, fun i n F' H hi l s => ?_, fun i t n F' H x H' ht l s y => ?_⟩
  · exact ⟨vs, vs[i]'(by rw [r.length]; exact hi), sq l s, List.getElem?_eq_getElem _⟩
  · obtain ⟨e1, y⟩ := y
    subst e1
    obtain ⟨v, hv, rv⟩ := r.get i ht
    have := y vs (sq l s)
    rw [hv] at this
    cases this
    exact ⟨F', Fr.refl _ _, s, rv.mono l⟩
theorem vi_list {tg : Expr} (hK : X.K = Γ.g.K) (he : PE X e (lE Γ te)) : PI X tg e (lI Γ (iLst te)) := PI.imp (pi_list he) fun σ H R ⟨ρ, n, F, Q, rel, h, k⟩ =>
  ⟨ρ, n, F, _, rel, h, fun v t n1 F1 H1 f1 s1 r1 q1 => by
    cases r1 with
    | lst e r => exact ⟨_, rfl, ⟨_, .inl (.inl (s1.at_ e))⟩, by rw [hK]; exact k _ _ n1 F1 H1 f1 s1 (itv_list e r) q1⟩
    | _ => exact q1.elim⟩
theorem vi_tup {tg : Expr} (hK : X.K = Γ.g.K) (he : PE X e (lE Γ te)) : PI X tg e (lI Γ (iTup te)) := PI.imp (pi_tup he) fun σ H R ⟨ρ, n, F, Q, rel, h, k⟩ =>
  ⟨ρ, n, F, _, rel, h, fun v t n1 F1 H1 f1 s1 r1 q1 => by
    cases r1 with
    | tup e r => exact ⟨_, rfl, ⟨_, by rw [hK]; exact sqT_sub s1 e⟩, by rw [hK]; exact k _ _ n1 F1 H1 f1 s1 (itv_tup e r) q1⟩
    | _ => exact q1.elim⟩
/-- lo, lo + 1, .., n of them -/
def rngT (lo : Int) (n : Nat) : List Tr := (List.range n).map fun (i : Nat) => Tr.int (lo + i)
theorem itv_rng {g : Gb} {F : FH} (lo : Int) (k : Nat) : ItV g F (Itr lo k) (rngT lo k) := by
  have hl : (rngT lo k).length = k := by simp [rngT]
  refine ⟨fun n F' H l s => by rw [hl]; exact Nat.le_refl _, fun i n F' H hi l s => by rw [hl] at hi; exact hi, fun i t n F' H x H' ht l s y => ?_⟩
  obtain ⟨e1, e2⟩ := y
  subst e1 e2
  have hi : i < k := by
    have := (List.getElem?_eq_some_iff.mp ht).1
    rw [hl] at this
    exact this
  have et : t = Tr.int (lo + i) := by
    unfold rngT at ht
    rw [List.getElem?_map, List.getElem?_range hi] at ht
    cases ht
    rfl
  subst et
  exact ⟨F', Fr.refl _ _, s, .int _⟩
def rng1Q (Q : List Tr → Nat → Prop) : List Tr → Nat → Prop
  | [.int j], n => (-(2 ^ 62) ≤ j ∧ j < 2 ^ 62) ∧ Q (rngT 0 j.toNat) n
  | _, _ => False
def iRng1 (l : RA) : RA := fun n ρ Q => l n ρ (rng1Q Q)
def rng2Q (Q : List Tr → Nat → Prop) : List Tr → Nat → Prop
  | [.int i, .int j], n => (-(2 ^ 62) ≤ i ∧ i < 2 ^ 62 ∧ -(2 ^ 62) ≤ j ∧ j < 2 ^ 62) ∧ Q (rngT i (j - i).toNat) n
  | _, _ => False
def iRng2 (l : RA) : RA := fun n ρ Q => l n ρ (rng2Q Q)
theorem vi_range1 {tg a : Expr} {ta : RA} {p : Pos} (hg : Gl X "range") (hm : X.mg "range" = none) (ha : PA X [a] (lA Γ ta)) (hs : starEach [a] X.env = [(false, eval a X.env)] := by rfl) : PI X tg (.Call (.Name "range" p) [a] [] pos) (lI Γ (iRng1 ta)) :=
  PI.imp (pi_range1 hg hm ha hs) fun σ H R ⟨ρ, n, F, Q, rel, h, k⟩ => ⟨ρ, n, F, _, rel, h, fun vs ts n1 F1 H1 f1 s1 r1 q1 => by
    match ts, q1, r1 with
    | [.int j], q1, r1 =>
      cases r1 with | cons r r2 => cases r with | int => cases r2 with | nil => exact ⟨j, rfl, q1.1.1, q1.1.2, k _ _ n1 F1 H1 f1 s1 (itv_rng 0 _) q1.2⟩⟩
theorem vi_range2 {tg a b : Expr} {ta : RA} {p : Pos} (hg : Gl X "range") (hm : X.mg "range" = none) (ha : PA X [a, b] (lA Γ ta)) (hs : starEach [a, b] X.env = [(false, eval a X.env), (false, eval b X.env)] := by rfl) (hs2 : starEach [b] X.env = [(false, eval b X.env)] := by rfl) : PI X tg (.Call (.Name "range" p) [a, b] [] pos) (lI Γ (iRng2 ta)) :=
  PI.imp (pi_range2 hg hm ha hs hs2) fun σ H R ⟨ρ, n, F, Q, rel, h, k⟩ => ⟨ρ, n, F, _, rel, h, fun vs ts n1 F1 H1 f1 s1 r1 q1 => by
    match ts, q1, r1 with
    | [.int i, .int j], q1, r1 =>
      cases r1 with | cons r r2 => cases r with | int => cases r2 with | cons r r2 => cases r with | int => cases r2 with | nil => exact ⟨i, j, rfl, q1.1, k _ _ n1 F1 H1 f1 s1 (itv_rng _ _) q1.2⟩⟩
end
end VL
/-! comprehensions, owned lists, fields of self, built-ins -/
namespace VL
open PySem L2 DS PyProof.Rows
section
variable {X : Cx} {Γ : Cn} {st : Stmt} {rest : List Stmt} {t u : RS} {e : Expr} {te ta tb : RE} {pos : Pos} {i : Nat} {x : Str}
def vNever : RS := fun _ _ _ => False
theorem vs_never : PS X st (lS Γ vNever) := PS.imp ps_never fun D' σ H ⟨ρ, n, F, D, rel, h, ok⟩ => h
theorem vss_never {sts : List Stmt} : PSs X sts (lS Γ vNever) := PSs.imp pss_never fun D' σ H ⟨ρ, n, F, D, rel, h, ok⟩ => h
/-! ### comprehensions -/
def wipeT (ρ : List Sl) : List Nat → List Sl
  | [] => ρ
  | v :: vs => (wipeT ρ vs).set v .un
theorem Rel.unset {Γ : Cn} {n : Nat} {ρ : List Sl} {F : FH} {σ : L2.St} {H : Hp} (r : Rel Γ n ρ F σ H) (i : Nat) (x : Option V) : Rel Γ n (ρ.set i .un) F (σ.set i x) H := by
  refine ⟨r.ok, r.fr, r.sub, by simp [r.len], fun j s ej => ?_, fun j k b s w ne ej ek oj ok sj sk => ?_⟩
  · by_cases q : j = i
    · subst q
      rw [List.getElem?_set, if_pos rfl] at ej
      split at ej
      · rename_i hl
        cases ej
        rw [r.len] at hl
        exact ⟨x, by rw [List.getElem?_set, if_pos rfl, if_pos hl], trivial⟩
      · cases ej
    · rw [List.getElem?_set_ne (Ne.symm q)] at ej
      rw [List.getElem?_set_ne (Ne.symm q)]
      exact r.sl j s ej
  · have nj : j ≠ i := fun z => by
      subst z
      rw [List.getElem?_set, if_pos rfl] at ej
      split at ej
      · cases ej; cases oj
      · cases ej
    have nk : k ≠ i := fun z => by
      subst z
      rw [List.getElem?_set, if_pos rfl] at ek
      split at ek
      · cases ek; cases ok
      · cases ek
    rw [List.getElem?_set_ne (Ne.symm nj)] at ej sj
    rw [List.getElem?_set_ne (Ne.symm nk)] at ek sk
    exact r.dis j k b s w ne ej ek oj ok sj sk
theorem Rel.wipe {Γ : Cn} {n : Nat} {ρ : List Sl} {F : FH} {σ : L2.St} {H : Hp} (r : Rel Γ n ρ F σ H) : ∀ vs : List Nat, Rel Γ n (wipeT ρ vs) F (L2.wipe σ vs) H
  | [] => r
  | v :: vs => (Rel.wipe r vs).unset v none
def lcW (g : RG) (tt : RT) (te : RE) (ρ : List Sl) (Q : VQ) : List Tr → List Tr → Nat → Prop
  | [], acc, n => Q (.lst acc) n
  | t :: ts, acc, n => g t n ρ fun n1 ρ1 => tt n1 ρ1 fun b n2 => if b = true then te n2 ρ1 fun y n3 => acc.length < sizeLine ∧ lcW g tt te ρ Q ts (acc ++ [y]) n3 else lcW g tt te ρ Q ts acc n2
def vLc (it : RA) (g : RG) (tt : RT) (te : RE) (vs : List Nat) : RE := fun n ρ Q => it n ρ fun ts n1 => lcW g tt te (wipeT ρ vs) Q ts [] n1
theorem Rel.nox2 {n : Nat} {ρ : List Sl} {F : FH} {σ : L2.St} {H : Hp} (r : Rel Γ n ρ F σ H) : Rel Γ.nox n ρ F σ H := r.nox
theorem own_some {n : Nat} {ρ : List Sl} {F : FH} {σ : L2.St} {H : Hp} (r : Rel Γ n ρ F σ H) {D : Addr} (hD : H D = none) : ∀ (j : Nat) s, ρ[j]? = some s → isOwn s = true → σ[j]? ≠ some (some (.ref D)) := fun j s ej oj z => by
  obtain ⟨x, h2, h3⟩ := r.sl j s ej
  rw [z] at h2
  cases h2
  have : ∃ u, H D = some u := by
    cases s with
    | un => cases oj
    | v t => cases oj
    | ol xs => obtain ⟨a, vs, e', h, _⟩ := h3; cases e'; exact ⟨_, h⟩
    | oi C a dx fs => obtain ⟨fvs, e', h, _⟩ := h3; cases e'; exact ⟨_, h⟩
    | od kvs => obtain ⟨a, vs, e', h, _⟩ := h3; cases e'; exact ⟨_, h⟩
  obtain ⟨u, hu⟩ := this
  rw [hu] at hD
  cases hD
theorem Fr.none {F F' : FH} {H H' : Hp} {D : Addr} {o : HO} (f : Fr F H F' H') (e : F D = none) (h : H D = some o) (no : ∀ ps, o ≠ .tbl ps := by intro _ z; cases z) : F' D = none := by
  cases q : F' D with
  | none => rfl
  | some w =>
    rcases f.fresh D (by rw [q]; intro z; cases z) with z | z
    · exact absurd e z
    · rw [nt_some h no] at z; cases z
/-- a comprehension, its list not frozen yet -/
theorem lc_raw {it : RA} {g : RG} {tt : RT} {vs : List Nat} {ρ : List Sl} {n : Nat} {F : FH} {σ : L2.St} {H : Hp} {Q : VQ} {Q' : VK} (rel : Rel Γ n ρ F σ H) (h : vLc it g tt te vs n ρ Q)
    (k : ∀ D avs acc n' F' H', Fr F H F' H' → Sub Γ.g n' F' H' → H' D = some (.lst avs) → F' D = none → nt H D = none → Reps Γ.g F' avs acc → Q (.lst acc) n' → Q' (.ref D) H') : tLc (lI Γ it) (lG Γ.nox vs g) (lT Γ.nox tt) (lE Γ.nox te) vs σ H Q' := by
  refine ⟨ρ, n, F, _, rel, h, fun J ts n1 F1 H1 f1 s1 iv q1 D hD => ?_⟩
  have rel1 := rel.go f1 s1
  have rw1 := rel1.wipe vs
  have away := own_some rw1 hD
  have fD := s1.free hD
  have h0 : nt Γ.H0 D = none := by
    cases q : nt Γ.H0 D with
    | none => rfl
    | some w => exact absurd (nt_none hD) (rel1.fr.there D (by rw [q]; intro z; cases z))
  obtain ⟨fa, sa⟩ := alloc0 (o := .lst []) s1 hD
  refine ⟨fun i m H => i + m = ts.length ∧ ∃ n F avs acc, Fr F1 H1 F H ∧ Sub Γ.g n F H ∧ H D = some (.lst avs) ∧ F D = none ∧ Reps Γ.g F avs acc ∧ Rel Γ n (wipeT ρ vs) F (L2.wipe σ vs) H ∧ lcW g tt te (wipeT ρ vs) Q (ts.drop i) acc n,
    ⟨ts.length, by omega, n1, F1, [], [], fa, sa, upd_same, fD, .nil, rw1.go fa sa, q1⟩, ?_⟩
  rintro i m G ⟨hm, n, F2, avs, acc, f2, s2, eD, nD, ra, rel2, w⟩
  by_cases hi : i < ts.length
  · rw [List.drop_eq_getElem_cons hi] at w
    refine .inr ⟨iv.go i n F2 G hi f2.le s2, fun G' => i + 1 + (m - 1) = ts.length ∧ ∃ n F avs acc, Fr F1 H1 F G' ∧ Sub Γ.g n F G' ∧ G' D = some (.lst avs) ∧ F D = none ∧ Reps Γ.g F avs acc ∧ Rel Γ n (wipeT ρ vs) F (L2.wipe σ vs) G' ∧ lcW g tt te (wipeT ρ vs) Q (ts.drop (i + 1)) acc n, fun G' h => ⟨m - 1, by omega, h⟩, fun x G' y => ?_⟩
    obtain ⟨F3, f3, s3, r3⟩ := iv.yld i ts[i] n F2 G x G' (List.getElem?_eq_getElem hi) f2.le s2 y
    have rel3 := rel2.go f3 s3
    refine ⟨wipeT ρ vs, n, F3, ts[i], _, rel3.nox, r3, w, fun σ4 ρ4 rel4 w4 q4 => ⟨?_, ρ4, n, F3, _, rel4, q4, fun b n5 F5 G5 f5 s5 q5 => ?_⟩⟩
    · have e2 : ∀ (us : List Nat) (τ : L2.St), L2.wipe (L2.wipe τ us) us = L2.wipe τ us := by
        have aux : ∀ (us us' : List Nat) (τ : L2.St), (∀ v ∈ us', v ∈ us) → L2.wipe (L2.wipe τ us') us = L2.wipe τ us := by
          intro us us'
          induction us' with
          | nil => intro τ _; rfl
          | cons v us' ih =>
            intro τ hv
            show L2.wipe ((L2.wipe τ us').set v none) us = _
            rw [wipe_set, if_pos (hv v (by simp))]
            exact ih τ fun z hz => hv z (by simp [hz])
        exact fun us τ => aux us us τ fun _ z => z
      rw [w4, e2]
    · have rel5 := rel4.go f5 s5
      have f35 : Fr F1 H1 F5 G5 := (f2.trans f3).trans f5
      have eD5 : G5 D = some (.lst avs) := (f3.trans f5).keep D _ eD (by rw [nD]; intro z; cases z) (fun ps z => nomatch z)
      have nD5 : F5 D = Option.none := (f3.trans f5).none nD eD
      have back5 : Rel Γ n5 (wipeT ρ vs) F5 (L2.wipe σ vs) G5 := (rel3.go f5 s5)
      cases b with
      | true =>
        refine iteT ⟨ρ4, n5, F5, _, rel5, (show te n5 ρ4 _ from q5), fun v t n6 F6 G6 f6 s6 r6 q6 => ?_⟩
        have eD6 : G6 D = some (.lst avs) := f6.keep D _ eD5 (by rw [nD5]; intro z; cases z) (fun ps z => nomatch z)
        have nD6 : F6 D = Option.none := f6.none nD5 eD5
        have ra6 : Reps Γ.g F6 avs acc := ((ra.mono f3.le).mono f5.le).mono f6.le
        have rel6 := back5.go f6 s6
        refine ⟨avs, eD6, by rw [ra6.length]; exact q6.1, by omega, n6, F6, avs ++ [v], acc ++ [t], (f35.trans f6).updN (nt_none hD), s6.upd eD6 (plain_lst _) nD6, upd_same, nD6, ra6.append (.cons r6 .nil), rel6.updD eD6 (plain_lst _) nD6 h0 away, q6.2⟩
      | false => exact iteF ⟨by omega, n5, F5, avs, acc, f35, s5, eD5, nD5, (ra.mono f3.le).mono f5.le, back5, (show lcW g tt te (wipeT ρ vs) Q (ts.drop (i + 1)) acc n5 from q5)⟩
  · have e : i = ts.length := by omega
    subst e
    rw [List.drop_length] at w
    refine .inl ⟨iv.stop n F2 G f2.le s2, ?_⟩
    refine k D avs acc n F2 G (f1.trans f2) s2 eD nD ?_ ra w
    cases q : nt H D with
    | none => rfl
    | some u => exact absurd (nt_none hD) (f1.there D (by rw [q]; intro z; cases z))
theorem lc_in {it : RA} {g : RG} {tt : RT} {vs : List Nat} {σ : L2.St} {H : Hp} {Q' : VK} (h : lE Γ (vLc it g tt te vs) σ H Q') : tLc (lI Γ it) (lG Γ.nox vs g) (lT Γ.nox tt) (lE Γ.nox te) vs σ H Q' := by
  obtain ⟨ρ, n, F, Q, rel, h, k⟩ := h
  refine lc_raw rel h fun D avs acc n' F' H' f s eD nD h0 ra q => ?_
  obtain ⟨l3, s3⟩ := freeze s eD nD
  exact k _ _ n' _ H' (f.frz h0 nD) s3 (.lst updF_same (ra.mono l3)) q
theorem PTs.imp {ifs : List Expr} {t t' : TT} (h : PTs X ifs t) (i : ∀ σ H Q, t' σ H Q → t σ H Q) : PTs X ifs t' := ⟨fun pins s σ H Q I q => h.run pins s σ H Q I (i _ _ _ q)⟩
theorem vts_nil : PTs X [] (lT Γ vYes) := PTs.imp pts_nil fun σ H Q' ⟨ρ, n, F, Q, rel, h, k⟩ => k true n F H (Fr.refl _ _) rel.sub h
theorem vts_one {c : Expr} {t : RT} (h : PT X c (lT Γ t)) : PTs X [c] (lT Γ t) := pts_one h
theorem ve_lc {elt tg iter : Expr} {ifs : List Expr} {scope : Scope} {own : List (Str × Nat)} {it : RA} {g : RG} {tt : RT} (hc : X.calm = true) (hN : X.N.Nodup) (hi : PI X tg iter (lI Γ it)) (ok : BlkOk X.N X.env.scope scope own)
    (hg : ∀ (s : Shared) (H : Hp) (C : Addr) (cl : List (Str × Addr)) (fp : List Addr), PG (X.blk s H scope (compEnvC scope cl C X.env) fp) tg (lG Γ.nox (own.map (·.2)) g)) (ht : ∀ (s : Shared) (H : Hp) (C : Addr) (cl : List (Str × Addr)) (fp : List Addr), PTs (X.blk s H scope (compEnvC scope cl C X.env) fp) ifs (lT Γ.nox tt))
    (he : ∀ (s : Shared) (H : Hp) (C : Addr) (cl : List (Str × Addr)) (fp : List Addr), PE (X.blk s H scope (compEnvC scope cl C X.env) fp) elt (lE Γ.nox te)) (hs : ∀ x, foldedSetIterable iter X.env x = pure x := by intro _; rfl) :
    PE X (.ListComp elt [⟨tg, iter, ifs, 0⟩] scope pos) (lE Γ (vLc it g tt te (own.map (·.2)))) :=
  PE.imp (pe_lc hc hN hi ok hg ht he hs) fun σ H Q' h => lc_in h
theorem vs_setLc {y : Str} {py spos : Pos} {elt tg iter : Expr} {ifs : List Expr} {scope : Scope} {own : List (Str × Nat)} {it : RA} {g : RG} {tt : RT} (hc : X.calm = true) (hN : X.N.Nodup) (hy : X.N[i]? = some y) (hyl : X.env.scope.names.lookup y = some .local)
    (hsw : swapsWith (.ListComp elt [⟨tg, iter, ifs, 0⟩] scope pos) (some (.Name y py)) spos.line X.env = pure true) (hi : PI X tg iter (lI Γ it)) (ok : BlkOk X.N X.env.scope scope own)
    (hg : ∀ (s : Shared) (H : Hp) (C : Addr) (cl : List (Str × Addr)) (fp : List Addr), PG (X.blk s H scope (compEnvC scope cl C X.env) fp) tg (lG Γ.nox (own.map (·.2)) g)) (ht : ∀ (s : Shared) (H : Hp) (C : Addr) (cl : List (Str × Addr)) (fp : List Addr), PTs (X.blk s H scope (compEnvC scope cl C X.env) fp) ifs (lT Γ.nox tt))
    (he : ∀ (s : Shared) (H : Hp) (C : Addr) (cl : List (Str × Addr)) (fp : List Addr), PE (X.blk s H scope (compEnvC scope cl C X.env) fp) elt (lE Γ.nox te)) (hs : ∀ x, foldedSetIterable iter X.env x = pure x := by intro _; rfl) :
    PS X (.Assign [.Name y py] (.ListComp elt [⟨tg, iter, ifs, 0⟩] scope pos) spos) (lS Γ (vSet i (vLc it g tt te (own.map (·.2))))) :=
  PS.imp (ps_setLc hc hN hy hyl hsw hi ok hg ht he hs) fun D' σ H h => by
    obtain ⟨ρ, n, F, D, rel, h, ok⟩ := h
    exact lc_in ⟨ρ, n, F, _, rel, h, fun v t n1 F1 H1 f1 s1 r1 q1 => ok.nx _ n1 F1 _ H1 f1.le ((rel.go f1 s1).set r1) q1⟩
/-! ### owned lists -/
def appQ (i : Nat) (D : VEnds) (ρ : List Sl) (e : RE) : Sl → Nat → Prop
  | .ol xs, n => xs.length < sizeLine ∧ e n ρ fun t n1 => D.nx n1 (ρ.set i (.ol (xs ++ [t])))
  | _, _ => False
/-- x.append(e) -/
def vApp (i : Nat) (e : RE) : RS := fun D n ρ => appQ i D ρ e (gt ρ i) n
theorem own_get {n : Nat} {ρ : List Sl} {F : FH} {σ : L2.St} {H : Hp} (rel : Rel Γ n ρ F σ H) {xs : List Tr} (eg : gt ρ i = .ol xs) : ∃ a vs, ρ[i]? = some (.ol xs) ∧ σ[i]? = some (some (.ref a)) ∧ H a = some (.lst vs) ∧ F a = none ∧ nt Γ.H0 a = none ∧ Reps Γ.g F vs xs := by
  have ei := gt_get eg (fun z => nomatch z)
  obtain ⟨o, h1, a, vs, e, h2, h3, h4, h5⟩ := rel.sl i _ ei
  subst e
  exact ⟨a, vs, ei, h1, h2, h3, h4, h5⟩
theorem vs_app (h : PS X st (tDrop (tBM X.K "list" rAppend (tVar i) (tCons (lE Γ te) tNil)))) : PS X st (lS Γ (vApp i te)) :=
  PS.imp h fun D' σ H ⟨ρ, n, F, D, rel, h, ok⟩ => by
    have h : appQ i D ρ te (gt ρ i) n := h
    cases eg : gt ρ i with
    | ol xs =>
      rw [eg] at h
      obtain ⟨a, vs, ei, es, h2, h3, h4, h5⟩ := own_get rel eg
      refine ⟨.ref a, es, .inl ⟨rfl, vs, .inl (.inl h2)⟩, ρ, n, F, _, rel, h.2, fun v t n1 F1 H1 f1 s1 r1 q1 => ?_⟩
      have k2 := f1.keep a _ h2 (by rw [h3]; intro z; cases z) (fun ps z => nomatch z)
      have k3 := f1.none h3 h2
      have k5 := h5.mono f1.le
      refine ⟨a, vs, v, rfl, rfl, k2, by rw [k5.length]; exact h.1, ?_⟩
      exact ok.nx _ n1 F1 σ _ f1.le ((rel.go f1 s1).updO (s1 := .ol (xs ++ [t])) ei rfl rfl es k2 (plain_lst _) k3 h4 ⟨a, vs ++ [v], rfl, upd_same, k3, h4, k5.append (.cons r1 .nil)⟩) q1
    | _ => rw [eg] at h; exact h.elim
def setK (i : Nat) (D : VEnds) (ρ : List Sl) (xs : List Tr) (t : Tr) : Tr → Nat → Prop
  | .int j, n => ∃ l, ixN xs.length j = some l ∧ D.nx n (ρ.set i (.ol (xs.set l t)))
  | _, _ => False
def setQ (i : Nat) (D : VEnds) (ρ : List Sl) (k e : RE) : Sl → Nat → Prop
  | .ol xs, n => e n ρ fun t n1 => k n1 ρ fun j n2 => setK i D ρ xs t j n2
  | _, _ => False
/-- x[k] = e -/
def vSetI (i : Nat) (k e : RE) : RS := fun D n ρ => setQ i D ρ k e (gt ρ i) n
theorem vs_setI {tk : RE} (h : PS X st (tAsg (lE Γ te) (gSub (tVar i) (lE Γ tk) rSetL))) : PS X st (lS Γ (vSetI i tk te)) :=
  PS.imp h fun D' σ H ⟨ρ, n, F, D, rel, h, ok⟩ => by
    have h : setQ i D ρ tk te (gt ρ i) n := h
    cases eg : gt ρ i with
    | ol xs =>
      rw [eg] at h
      refine ⟨ρ, n, F, _, rel, h, fun v t n1 F1 H1 f1 s1 r1 q1 => ?_⟩
      have rel1 := rel.go f1 s1
      obtain ⟨a, vs, ei, es, h2, h3, h4, h5⟩ := own_get rel1 eg
      refine ⟨.ref a, es, ρ, n1, F1, _, rel1, q1, fun v2 t2 n2 F2 H2 f2 s2 r2 q2 => ?_⟩
      have k2 := f2.keep a _ h2 (by rw [h3]; intro z; cases z) (fun ps z => nomatch z)
      have k3 := f2.none h3 h2
      have k5 := h5.mono f2.le
      cases r2 with
      | int j =>
        obtain ⟨l, hl, q⟩ := q2
        refine ⟨a, vs, j, l, rfl, rfl, k2, by rw [k5.length]; exact hl, ?_⟩
        exact ok.nx _ n2 F2 σ _ (f1.le.trans f2.le) ((rel1.go f2 s2).updO (s1 := .ol (xs.set l t)) ei rfl rfl es k2 (plain_lst _) k3 h4 ⟨a, vs.set l v, rfl, upd_same, k3, h4, k5.set (r1.mono f2.le) l⟩) q
      | _ => exact q2.elim
    | _ => rw [eg] at h; exact h.elim
/-- y = x.pop(k) -/
def popK (i j : Nat) (D : VEnds) (ρ : List Sl) (xs : List Tr) : Tr → Nat → Prop
  | .int k, n => ∃ l t, (-(2 ^ 63) ≤ k ∧ k < 2 ^ 63) ∧ seqIndex? k xs.length = some l ∧ xs[l]? = some t ∧ D.nx n ((ρ.set i (.ol (xs.eraseIdx l))).set j (.v t))
  | _, _ => False
def popQ (i j : Nat) (D : VEnds) (ρ : List Sl) (k : RE) : Sl → Nat → Prop
  | .ol xs, n => k n ρ fun t n1 => popK i j D ρ xs t n1
  | _, _ => False
def vPop (i j : Nat) (k : RE) : RS := fun D n ρ => popQ i j D ρ k (gt ρ i) n
theorem vs_pop {j : Nat} {tk : RE} (h : PS X st (tAsg (tBM X.K "list" rPopAt (tVar i) (tCons (lE Γ tk) tNil)) (L2.gName j))) : PS X st (lS Γ (vPop i j tk)) :=
  PS.imp h fun D' σ H ⟨ρ, n, F, D, rel, h, ok⟩ => by
    have h : popQ i j D ρ tk (gt ρ i) n := h
    cases eg : gt ρ i with
    | ol xs =>
      rw [eg] at h
      obtain ⟨a, vs, ei, es, h2, h3, h4, h5⟩ := own_get rel eg
      refine ⟨.ref a, es, .inl ⟨rfl, vs, .inl (.inl h2)⟩, ρ, n, F, _, rel, h, fun v t n1 F1 H1 f1 s1 r1 q1 => ?_⟩
      have k2 := f1.keep a _ h2 (by rw [h3]; intro z; cases z) (fun ps z => nomatch z)
      have k3 := f1.none h3 h2
      have k5 := h5.mono f1.le
      cases r1 with
      | int k =>
        obtain ⟨l, t, hk, hl, ht, q⟩ := q1
        obtain ⟨w, hw, rw'⟩ := k5.get l ht
        refine ⟨a, vs, k, l, w, rfl, rfl, k2, hk.1, hk.2, by rw [k5.length]; exact hl, hw, ?_⟩
        exact ok.nx _ n1 F1 _ _ f1.le (((rel.go f1 s1).updO (s1 := .ol (xs.eraseIdx l)) ei rfl rfl es k2 (plain_lst _) k3 h4 ⟨a, vs.eraseIdx l, rfl, upd_same, k3, h4, k5.erase l⟩).set rw') q
      | _ => exact q1.elim
    | _ => rw [eg] at h; exact h.elim
/-- reading an owned list -/
def olQ (Q : List Tr → Prop) : Sl → Prop
  | .ol xs => Q xs
  | _ => False
def vLenO (i : Nat) : RE := fun n ρ Q => olQ (fun xs => Q (.int xs.length) n) (gt ρ i)
theorem ve_lenO (hK : X.K = Γ.g.K) (h : PE X e (tCB (fun xs H Q => ∃ p ys, xs = [.ref p] ∧ (SqL X.K H p ys ∨ SqT X.K H p ys) ∧ Q (.int ys.length) H) (tCons (tVar i) tNil))) : PE X e (lE Γ (vLenO i)) :=
  PE.imp h fun σ H Q' ⟨ρ, n, F, Q, rel, h, k⟩ => by
    have h : olQ (fun xs => Q (.int xs.length) n) (gt ρ i) := h
    cases eg : gt ρ i with
    | ol xs =>
      rw [eg] at h
      obtain ⟨a, vs, ei, es, h2, h3, h4, h5⟩ := own_get rel eg
      exact ⟨.ref a, es, a, vs, rfl, .inl (.inl (.inl h2)), k.here rel.sub (.int _) (by rw [h5.length]; exact h)⟩
    | _ => rw [eg] at h; exact h.elim
def ixQ (xs : List Tr) (Q : VQ) : Tr → Nat → Prop
  | .int j, n => ∃ t, atI xs j = some t ∧ Q t n
  | _, _ => False
theorem Reps.atI {g : Gb} {F : FH} {vs : List V} {ts : List Tr} {j : Int} {t : Tr} (r : Reps g F vs ts) (h : L2.atI ts j = some t) : ∃ v, L2.atI vs j = some v ∧ Rep g F v t := by
  unfold L2.atI at h ⊢
  rw [r.length]
  cases e : ixN ts.length j with
  | none => rw [e] at h; cases h
  | some l =>
    rw [e] at h
    exact r.get l h
def vIxO (i : Nat) (k : RE) : RE := fun n ρ Q => olQ (fun xs => k n ρ (ixQ xs Q)) (gt ρ i)
theorem ve_ixO {tk : RE} (h : PE X e (tOp (rIxL X.K) (tVar i) (lE Γ tk))) : PE X e (lE Γ (vIxO i tk)) :=
  PE.imp h fun σ H Q' ⟨ρ, n, F, Q, rel, h, k⟩ => by
    have h : olQ (fun xs => tk n ρ (ixQ xs Q)) (gt ρ i) := h
    cases eg : gt ρ i with
    | ol xs =>
      rw [eg] at h
      obtain ⟨a, vs, ei, es, h2, h3, h4, h5⟩ := own_get rel eg
      refine ⟨.ref a, es, ρ, n, F, _, rel, h, fun v t n1 F1 H1 f1 s1 r1 q1 => ?_⟩
      have k2 := f1.keep a _ h2 (by rw [h3]; intro z; cases z) (fun ps z => nomatch z)
      cases r1 with
      | int j =>
        obtain ⟨t, ht, q⟩ := q1
        obtain ⟨w, hw, rw'⟩ := (h5.mono f1.le).atI ht
        exact ⟨a, vs, j, w, rfl, rfl, .inl (.inl k2), hw, (k.go f1).here s1 rw' q⟩
      | _ => exact q1.elim
    | _ => rw [eg] at h; exact h.elim
def vTruO (i : Nat) : RT := fun n ρ Q => olQ (fun xs => Q (!xs.isEmpty) n) (gt ρ i)
theorem vt_truO (h : PT X e (fun σ H Q => tVar i σ H fun x H' => ∃ k, TruV X.K x H' k ∧ Q k H')) : PT X e (lT Γ (vTruO i)) :=
  PT.imp h fun σ H Q' ⟨ρ, n, F, Q, rel, h, k⟩ => by
    have h : olQ (fun xs => Q (!xs.isEmpty) n) (gt ρ i) := h
    cases eg : gt ρ i with
    | ol xs =>
      rw [eg] at h
      obtain ⟨a, vs, ei, es, h2, h3, h4, h5⟩ := own_get rel eg
      refine ⟨.ref a, es, !vs.isEmpty, .inl ⟨vs, .inl (.inl h2), rfl⟩, k _ n F H (Fr.refl _ _) rel.sub ?_⟩
      have : vs.isEmpty = xs.isEmpty := by cases h5 <;> rfl
      rw [this]
      exact h
    | _ => rw [eg] at h; exact h.elim
/-! ### self in __init__ -/
def fstQ (C : Addr) (i : Nat) (f : Str) (D : VEnds) (ρ : List Sl) (t : Tr) : Sl → Nat → Prop
  | .oi C' a dx fs, n => C' = C ∧ fs.length < 1000 ∧ D.nx n (ρ.set i (.oi C' a dx (putT f t fs)))
  | _, _ => False
def fsQ (C : Addr) (i : Nat) (f : Str) (D : VEnds) (ρ : List Sl) (e : RE) : Sl → Nat → Prop
  | .oi C' a dx fs, n => C' = C ∧ fs.length < 1000 ∧ e n ρ fun t n1 => D.nx n1 (ρ.set i (.oi C' a dx (putT f t fs)))
  | _, _ => False
/-- self.f = e -/
def vFldS (C : Addr) (i : Nat) (f : Str) (e : RE) : RS := fun D n ρ => fsQ C i f D ρ e (gt ρ i) n
theorem oi_get {n : Nat} {ρ : List Sl} {F : FH} {σ : L2.St} {H : Hp} (rel : Rel Γ n ρ F σ H) {C a dx : Addr} {fs : List (Str × Tr)} (eg : gt ρ i = .oi C a dx fs) : ∃ fvs, ρ[i]? = some (.oi C a dx fs) ∧ σ[i]? = some (some (.ref a)) ∧ H a = some (.ins C dx fvs) ∧ F a = none ∧ nt Γ.H0 a = none ∧ OwnC Γ.g.K C ∧ RepF Γ.g F fvs fs := by
  have ei := gt_get eg (fun z => nomatch z)
  obtain ⟨o, h1, fvs, e, h2, h3, h4, h5⟩ := rel.sl i _ ei
  subst e
  exact ⟨fvs, ei, h1, h2, h3, h4, h5⟩
theorem vs_fldS {C : Addr} {f : Str} (hK : X.K = Γ.g.K) (hn : NoAttr X.K C f) (h : PS X st (sFld X.K (tVar i) (lE Γ te) f)) : PS X st (lS Γ (vFldS C i f te)) :=
  PS.imp h fun D' σ H ⟨ρ, n, F, D, rel, h, ok⟩ => by
    have h : fsQ C i f D ρ te (gt ρ i) n := h
    cases eg : gt ρ i with
    | oi C' a dx fs =>
      rw [eg] at h
      obtain ⟨rfl, hl, h⟩ := h
      refine ⟨ρ, n, F, _, rel, h, fun v t n1 F1 H1 f1 s1 r1 q1 => ?_⟩
      have rel1 := rel.go f1 s1
      obtain ⟨fvs, ei, es, h2, h3, h4, h5, h6⟩ := oi_get rel1 eg
      refine ⟨.ref a, es, a, _, dx, fvs, rfl, h2, by rw [hK]; exact h5.cl, hn, by rw [h6.length]; exact hl, ?_⟩
      exact ok.nx _ n1 F1 σ _ f1.le (rel1.updO (s1 := .oi _ a dx (putT f t fs)) ei rfl rfl es h2 (plain_ins _ _ _) h3 h4 ⟨putF f v fvs, rfl, upd_same, h3, h4, h5, h6.put r1⟩) q1
    | _ => rw [eg] at h; exact h.elim
end
end VL
/-! built-ins and data -/
namespace VL
open PySem L2 DS PyProof.Rows
def vCB (r : VRL) (l : RA) : RE := fun n ρ Q => l n ρ fun ts n1 => r ts n1 Q
section
variable {X : Cx} {Γ : Cn} {st : Stmt} {rest : List Stmt} {e : Expr} {es : List Expr} {te ta tb : RE} {tl : RA} {pos p : Pos} {i : Nat} {x : Str} {id T : String} {r : VRL}
theorem cb_in {σ : L2.St} {H : Hp} {Q' : VK} (h : lE Γ (vCB r tl) σ H Q') : tCB (lC Γ r) (lA Γ tl) σ H Q' := by
  obtain ⟨ρ, n, F, Q, rel, h, k⟩ := h
  exact ⟨ρ, n, F, _, rel, h, fun vs ts n1 F1 H1 f1 s1 r1 q1 => ⟨n1, F1, ts, Q, rel.ok, rel.fr.trans f1, s1, r1, q1, k.go f1⟩⟩
theorem ve_callB (hc : CallR X (.builtin id) (lC Γ r)) (hg : Gl X x) (hm : X.mg x = none) (hv : bootBuiltins x = some (.builtin id)) (ha : PA X (e :: es) (lA Γ tl)) (hn : x ≠ "__name__" := by decide) (hdb : (x == ("__debug__" : Str)) = false := by decide)
    (he : starEach (e :: es) X.env = (false, eval e X.env) :: starEach es X.env := by rfl) (hpl : (backTo pos (starEach es X.env)).any (·.1) = false := by rfl) : PE X (.Call (.Name x p) (e :: es) [] pos) (lE Γ (vCB r tl)) :=
  PE.imp (pe_callB hc hg hm hv ha hn hdb he hpl) fun σ H Q' h => cb_in h
theorem ve_callTy (hc : CallR X (.type T) (lC Γ r)) (hg : Gl X x) (hm : X.mg x = none) (hv : bootBuiltins x = some (.type T)) (ha : PA X (e :: es) (lA Γ tl)) (hn : x ≠ "__name__" := by decide) (hdb : (x == ("__debug__" : Str)) = false := by decide)
    (he : starEach (e :: es) X.env = (false, eval e X.env) :: starEach es X.env := by rfl) (hpl : (backTo pos (starEach es X.env)).any (·.1) = false := by rfl) : PE X (.Call (.Name x p) (e :: es) [] pos) (lE Γ (vCB r tl)) :=
  PE.imp (pe_callTy hc hg hm hv ha hn hdb he hpl) fun σ H Q' h => cb_in h
theorem Reps.one {g : Gb} {F : FH} {vs : List V} {a : Tr} (r : Reps g F vs [a]) : ∃ v, vs = [v] ∧ Rep g F v a := by
  cases r with | cons r1 r => cases r with | nil => exact ⟨_, rfl, r1⟩
/-! ### ints -/
def cInt : VRL
  | [.int i], n, Q => Q (.int i) n
  | [.bl b], n, Q => Q (.int (if b then 1 else 0)) n
  | _, _, _ => False
theorem cv_int : CallR X (.type "int") (lC Γ cInt) := CallR.imp call_int1 fun xs H Q' ⟨n, F, ts, Q, ok, fr, s, r, q, k⟩ => by
  match ts, q, r with
  | [.int i], q, r =>
    obtain ⟨v, rfl, r1⟩ := r.one
    cases r1
    exact .inl ⟨i, rfl, k.here s (.int _) q⟩
  | [.bl b], q, r =>
    obtain ⟨v, rfl, r1⟩ := r.one
    cases r1
    exact .inr ⟨b, rfl, k.here s (.int _) q⟩
def cAbs : VRL
  | [.int i], n, Q => Q (.int (if i < 0 then -i else i)) n
  | _, _, _ => False
theorem cv_abs : CallR X (.builtin "abs") (lC Γ cAbs) := CallR.imp call_abs fun xs H Q' ⟨n, F, ts, Q, ok, fr, s, r, q, k⟩ => by
  match ts, q, r with
  | [.int i], q, r =>
    obtain ⟨v, rfl, r1⟩ := r.one
    cases r1
    exact ⟨i, rfl, k.here s (.int _) q⟩
def c2I (g : Int → Int → Int) : VRL
  | [.int i, .int j], n, Q => Q (.int (g i j)) n
  | _, _, _ => False
theorem cv_max2 (hc : X.calm = true) : CallR X (.builtin "max") (lC Γ (c2I fun i j => if j > i then j else i)) := CallR.imp (call_max2 hc) fun xs H Q' ⟨n, F, ts, Q, ok, fr, s, r, q, k⟩ => by
  match ts, q, r with
  | [.int i, .int j], q, r =>
    obtain ⟨v, w, rfl, r1, r2⟩ := r.two
    cases r1; cases r2
    exact ⟨i, j, rfl, k.here s (.int _) q⟩
theorem cv_min2 (hc : X.calm = true) : CallR X (.builtin "min") (lC Γ (c2I fun i j => if j < i then j else i)) := CallR.imp (call_min2 hc) fun xs H Q' ⟨n, F, ts, Q, ok, fr, s, r, q, k⟩ => by
  match ts, q, r with
  | [.int i, .int j], q, r =>
    obtain ⟨v, w, rfl, r1, r2⟩ := r.two
    cases r1; cases r2
    exact ⟨i, j, rfl, k.here s (.int _) q⟩
def cDivmod : VRL
  | [.int i, .int j], n, Q => CDivP i j ∧ Q (.tup [.int (i / j), .int (i % j)]) n
  | _, _, _ => False
theorem cv_divmod : CallR X (.builtin "divmod") (lC Γ cDivmod) := CallR.imp call_divmodW fun xs H Q' ⟨n, F, ts, Q, ok, fr, s, r, q, k⟩ => by
  match ts, q, r with
  | [.int i, .int j], q, r =>
    obtain ⟨v, w, rfl, r1, r2⟩ := r.two
    cases r1; cases r2
    refine ⟨i, j, rfl, q.1, fun p hp => ?_⟩
    obtain ⟨f2, s2⟩ := alloc (o := .tup [.int (i / j), .int (i % j)]) s hp
    exact k _ _ n _ _ f2 s2 (.tup (.inl (.inl (hp_eq.mpr updF_same))) (.cons (.int _) (.cons (.int _) .nil))) q.2
/-! ### sequences -/
def cLen : VRL
  | [.lst ts], n, Q => Q (.int ts.length) n
  | [.tup ts], n, Q => Q (.int ts.length) n
  | [.scr ns], n, Q => Q (.int ns.length) n
  | _, _, _ => False
theorem cv_len (hK : X.K = Γ.g.K) : CallR X (.builtin "len") (lC Γ cLen) := CallR.imp call_len_seq fun xs H Q' ⟨n, F, ts, Q, ok, fr, s, r, q, k⟩ => by
  match ts, q, r with
  | [.lst ts], q, r =>
    obtain ⟨v, rfl, r1⟩ := r.one
    cases r1 with
    | lst e r1 => exact ⟨_, _, rfl, .inl (.inl (.inl (s.at_ e))), k.here s (.int _) (by rw [r1.length]; exact q)⟩
  | [.tup ts], q, r =>
    obtain ⟨v, rfl, r1⟩ := r.one
    cases r1 with
    | tup e r1 => exact ⟨_, _, rfl, .inr (by rw [hK]; exact sqT_sub s e), k.here s (.int _) (by rw [r1.length]; exact q)⟩
  | [.scr ns], q, r =>
    obtain ⟨v, rfl, r1⟩ := r.one
    cases r1 with
    | scr e => exact ⟨_, _, rfl, .inl (by rw [hK]; exact sqL_same s.ob e), k.here s (.int _) (by rw [List.length_map]; exact q)⟩
def cLenS : VRL
  | [.str x], n, Q => x.length ≤ sizeLine ∧ Q (.int x.length) n
  | _, _, _ => False
theorem cv_lenS : CallR X (.builtin "len") (lC Γ cLenS) := CallR.imp call_len_str fun xs H Q' ⟨n, F, ts, Q, ok, fr, s, r, q, k⟩ => by
  match ts, q, r with
  | [.str x], q, r =>
    obtain ⟨v, rfl, r1⟩ := r.one
    cases r1
    exact ⟨x, rfl, q.1, k.here s (.int _) q.2⟩
def cList : VRL
  | [.lst ts], n, Q => Q (.lst ts) n
  | [.tup ts], n, Q => Q (.lst ts) n
  | _, _, _ => False
theorem cv_list (hK : X.K = Γ.g.K) : CallR X (.type "list") (lC Γ cList) := CallR.imp call_list_of fun xs H Q' ⟨n, F, ts, Q, ok, fr, s, r, q, k⟩ => by
  match ts, q, r with
  | [.lst ts], q, r =>
    obtain ⟨v, rfl, r1⟩ := r.one
    cases r1 with
    | lst e r1 =>
      refine ⟨_, _, rfl, .inl (.inl (.inl (s.at_ e))), fun l hl => ?_⟩
      obtain ⟨f2, s2⟩ := alloc (o := .lst _) s hl
      exact k _ _ n _ _ f2 s2 (.lst updF_same (r1.mono f2.le)) q
  | [.tup ts], q, r =>
    obtain ⟨v, rfl, r1⟩ := r.one
    cases r1 with
    | tup e r1 =>
      refine ⟨_, _, rfl, .inr (by rw [hK]; exact sqT_sub s e), fun l hl => ?_⟩
      obtain ⟨f2, s2⟩ := alloc (o := .lst _) s hl
      exact k _ _ n _ _ f2 s2 (.lst updF_same (r1.mono f2.le)) q
def cTuple : VRL
  | [.lst ts], n, Q => Q (.tup ts) n
  | [.tup ts], n, Q => Q (.tup ts) n
  | _, _, _ => False
theorem cv_tuple (hK : X.K = Γ.g.K) : CallR X (.type "tuple") (lC Γ cTuple) := CallR.imp call_tuple_of fun xs H Q' ⟨n, F, ts, Q, ok, fr, s, r, q, k⟩ => by
  match ts, q, r with
  | [.lst ts], q, r =>
    obtain ⟨v, rfl, r1⟩ := r.one
    cases r1 with
    | lst e r1 =>
      refine ⟨_, _, rfl, .inl ⟨.inl (.inl (s.at_ e)), fun l hl => ?_⟩⟩
      obtain ⟨f2, s2⟩ := alloc (o := .tup _) s hl
      exact k _ _ n _ _ f2 s2 (.tup (.inl (.inl (hp_eq.mpr updF_same))) (r1.mono f2.le)) q
  | [.tup ts], q, r =>
    obtain ⟨v, rfl, r1⟩ := r.one
    cases r1 with
    | tup e r1 => exact ⟨_, _, rfl, .inr ⟨by rw [hK]; exact sqT_sub s e, k.here s (.tup e r1) q⟩⟩
def cSum : VRL
  | [.lst ts], n, Q => ∃ ns : List Int, ts = ns.map Tr.int ∧ Q (.int ns.sum) n
  | _, _, _ => False
theorem cv_sum (hc : X.calm = true) : CallR X (.builtin "sum") (lC Γ cSum) := CallR.imp (cr_sum hc) fun xs H Q' ⟨n, F, ts, Q, ok, fr, s, r, q, k⟩ => by
  match ts, q, r with
  | [.lst ts], q, r =>
    obtain ⟨v, rfl, r1⟩ := r.one
    obtain ⟨ns, rfl, q⟩ := q
    cases r1 with
    | lst e r1 =>
      have e2 := r1.ints
      subst e2
      exact ⟨_, ns, rfl, .inl (.inl (s.at_ e)), k.here s (.int _) q⟩
def cAll : VRL
  | [.lst ts], n, Q => ∃ bs : List Bool, ts = bs.map Tr.bl ∧ Q (.bl (bs.all fun b => b)) n
  | _, _, _ => False
theorem cv_all (hc : X.calm = true) : CallR X (.builtin "all") (lC Γ cAll) := CallR.imp (cr_all hc) fun xs H Q' ⟨n, F, ts, Q, ok, fr, s, r, q, k⟩ => by
  match ts, q, r with
  | [.lst ts], q, r =>
    obtain ⟨v, rfl, r1⟩ := r.one
    obtain ⟨ns, rfl, q⟩ := q
    cases r1 with
    | lst e r1 =>
      have e2 := r1.bools
      subst e2
      exact ⟨_, ns, rfl, .inl (.inl (s.at_ e)), k.here s (.bl _) q⟩
def cAny : VRL
  | [.lst ts], n, Q => ∃ bs : List Bool, ts = bs.map Tr.bl ∧ Q (.bl (bs.any fun b => b)) n
  | _, _, _ => False
theorem cv_any (hc : X.calm = true) : CallR X (.builtin "any") (lC Γ cAny) := CallR.imp (cr_any hc) fun xs H Q' ⟨n, F, ts, Q, ok, fr, s, r, q, k⟩ => by
  match ts, q, r with
  | [.lst ts], q, r =>
    obtain ⟨v, rfl, r1⟩ := r.one
    obtain ⟨ns, rfl, q⟩ := q
    cases r1 with
    | lst e r1 =>
      have e2 := r1.bools
      subst e2
      exact ⟨_, ns, rfl, .inl (.inl (s.at_ e)), k.here s (.bl _) q⟩
def cSorted : VRL
  | [.lst ts], n, Q => ∃ ns : List Int, ts = ns.map Tr.int ∧ ∀ ns' : List Int, ns'.Perm ns → ns'.Pairwise (· ≤ ·) → Q (.lst (ns'.map Tr.int)) n
  | _, _, _ => False
theorem cv_sorted : CallR X (.builtin "sorted") (lC Γ cSorted) := CallR.imp cr_sortedI fun xs H Q' ⟨n, F, ts, Q, ok, fr, s, r, q, k⟩ => by
  match ts, q, r with
  | [.lst ts], q, r =>
    obtain ⟨v, rfl, r1⟩ := r.one
    obtain ⟨ns, rfl, q⟩ := q
    cases r1 with
    | lst e r1 =>
      have e2 := r1.ints
      subst e2
      refine ⟨_, ns, rfl, .inl (.inl (s.at_ e)), fun ns' p h1 h2 hp => ?_⟩
      obtain ⟨f2, s2⟩ := alloc (o := .lst (ns'.map V.int)) s hp
      exact k _ _ n _ _ f2 s2 (.lst updF_same (Reps.of_ints ns')) (q ns' h1 h2)
def cMaxL : VRL
  | [.lst ts], n, Q => ∃ ns : List Int, ts = ns.map Tr.int ∧ 0 < ns.length ∧ ∀ m, m ∈ ns → (∀ y ∈ ns, y ≤ m) → Q (.int m) n
  | _, _, _ => False
theorem cv_maxL (hc : X.calm = true) : CallR X (.builtin "max") (lC Γ cMaxL) := CallR.imp (cr_max hc) fun xs H Q' ⟨n, F, ts, Q, ok, fr, s, r, q, k⟩ => by
  match ts, q, r with
  | [.lst ts], q, r =>
    obtain ⟨v, rfl, r1⟩ := r.one
    obtain ⟨ns, rfl, h0, q⟩ := q
    cases r1 with
    | lst e r1 =>
      have e2 := r1.ints
      subst e2
      exact ⟨_, ns, rfl, .inl (.inl (s.at_ e)), h0, fun m h1 h2 => k.here s (.int _) (q m h1 h2)⟩
def cMinL : VRL
  | [.lst ts], n, Q => ∃ ns : List Int, ts = ns.map Tr.int ∧ 0 < ns.length ∧ ∀ m, m ∈ ns → (∀ y ∈ ns, m ≤ y) → Q (.int m) n
  | _, _, _ => False
theorem cv_minL (hc : X.calm = true) : CallR X (.builtin "min") (lC Γ cMinL) := CallR.imp (cr_min hc) fun xs H Q' ⟨n, F, ts, Q, ok, fr, s, r, q, k⟩ => by
  match ts, q, r with
  | [.lst ts], q, r =>
    obtain ⟨v, rfl, r1⟩ := r.one
    obtain ⟨ns, rfl, h0, q⟩ := q
    cases r1 with
    | lst e r1 =>
      have e2 := r1.ints
      subst e2
      exact ⟨_, ns, rfl, .inl (.inl (s.at_ e)), h0, fun m h1 h2 => k.here s (.int _) (q m h1 h2)⟩
/-! ### places, slices, sums of lists -/
def ixL : VR2
  | .lst ts, k, n, Q => ixQ ts Q k n
  | _, _, _, _ => False
def ixT : VR2
  | .tup ts, k, n, Q => ixQ ts Q k n
  | _, _, _, _ => False
theorem IxR.imp {r r' : R2} (h : IxR X r) (i : ∀ x y H Q, r' x y H Q → r x y H Q) : IxR X r' := fun a b pins s σ H x y v u Q I rx ry q z => h a b pins s σ H x y v u Q I rx ry (i _ _ _ _ q) z
theorem iv_list : IxR X (lR Γ ixL) := IxR.imp ix_list fun x y H Q' ⟨n, F, tx, ty, Q, ok, fr, s, rx, ry, q, k⟩ => by
  cases rx with
  | lst e r => cases ry with
    | int j =>
      obtain ⟨t, ht, q⟩ := q
      obtain ⟨w, hw, rw'⟩ := r.atI ht
      exact ⟨_, _, j, w, rfl, rfl, .inl (.inl (s.at_ e)), hw, k.here s rw' q⟩
    | _ => exact q.elim
  | _ => exact q.elim
theorem iv_tup (hK : X.K = Γ.g.K) : IxR X (lR Γ ixT) := IxR.imp ix_tup fun x y H Q' ⟨n, F, tx, ty, Q, ok, fr, s, rx, ry, q, k⟩ => by
  cases rx with
  | tup e r => cases ry with
    | int j =>
      obtain ⟨t, ht, q⟩ := q
      obtain ⟨w, hw, rw'⟩ := r.atI ht
      exact ⟨_, _, j, w, rfl, rfl, by rw [hK]; exact sqT_sub s e, hw, k.here s rw' q⟩
    | _ => exact q.elim
  | _ => exact q.elim
theorem ve_ix {a b : Expr} {r : VR2} (hr : IxR X (lR Γ r)) (ha : PE X a (lE Γ ta)) (hb : PE X b (lE Γ tb)) (hs : PlainIx b) : PE X (.Subscript a b pos) (lE Γ (vOp r ta tb)) :=
  PE.imp (pe_ix hr ha hb hs) fun σ H Q' ⟨ρ, n, F, Q, rel, h, k⟩ =>
    ⟨ρ, n, F, _, rel, h, fun v t n1 F1 H1 f1 s1 r1 q1 => ⟨ρ, n1, F1, _, rel.go f1 s1, q1, fun v2 t2 n2 F2 H2 f2 s2 r2 q2 => ⟨n2, F2, t, t2, Q, rel.ok, (rel.go f1 s1).fr.trans f2, s2, r1.mono f2.le, r2, q2, (k.go f1).go f2⟩⟩⟩
abbrev RO := Nat → List Sl → (Option Int → Nat → Prop) → Prop
def lO (Γ : Cn) (τ : RO) : TO := fun σ H Q' => ∃ ρ n F Q, Rel Γ n ρ F σ H ∧ τ n ρ Q ∧ ∀ o n' F' H', Fr F H F' H' → Sub Γ.g n' F' H' → Q o n' → Q' o H'
theorem PO.imp {e : Option Expr} {t t' : TO} (h : PO X e t) (i : ∀ σ H Q, t' σ H Q → t σ H Q) : PO X e t' := ⟨fun pins s σ H Q I q => h.run pins s σ H Q I (i _ _ _ q)⟩
def oNone : RO := fun n _ Q => Q none n
def oiQ2 (Q : Option Int → Nat → Prop) : Tr → Nat → Prop
  | .int i, n => Q (some i) n
  | _, _ => False
def oSome (e : RE) : RO := fun n ρ Q => e n ρ (oiQ2 Q)
theorem vo_none : PO X none (lO Γ oNone) := PO.imp po_none fun σ H Q' ⟨ρ, n, F, Q, rel, h, k⟩ => k none n F H (Fr.refl _ _) rel.sub h
theorem vo_some (he : PE X e (lE Γ te)) : PO X (some e) (lO Γ (oSome te)) := PO.imp (po_some he) fun σ H Q' ⟨ρ, n, F, Q, rel, h, k⟩ => ⟨ρ, n, F, _, rel, h, fun v t n1 F1 H1 f1 s1 r1 q1 => by
  cases r1 with
  | int i => exact ⟨i, rfl, k _ n1 F1 H1 f1 s1 q1⟩
  | _ => exact q1.elim⟩
def cutT (xs : List Tr) (lo hi : Option Int) : List Tr := (xs.drop (HT.sIx xs.length 0 lo)).take (HT.sIx xs.length xs.length hi - HT.sIx xs.length 0 lo)
theorem Reps.cut {g : Gb} {F : FH} {vs : List V} {ts : List Tr} (r : Reps g F vs ts) (lo hi : Option Int) : Reps g F (cutV vs lo hi) (cutT ts lo hi) := by
  unfold cutV cutT
  rw [r.length]
  exact (r.drop _).take _
def slQ (lo hi : Option Int) : Tr → Nat → VQ → Prop
  | .lst ts, n, Q => Q (.lst (cutT ts lo hi)) n
  | _, _, _ => False
def vSlL (e : RE) (lo hi : RO) : RE := fun n ρ Q => e n ρ fun t n1 => lo n1 ρ fun a n2 => hi n2 ρ fun b n3 => slQ a b t n3 Q
theorem ve_slL {lo hi : Option Expr} {tlo thi : RO} {p2 : Pos} (he : PE X e (lE Γ te)) (hl : PO X lo (lO Γ tlo)) (hu : PO X hi (lO Γ thi)) : PE X (.Subscript e (.Slice lo hi none p2) pos) (lE Γ (vSlL te tlo thi)) :=
  PE.imp (pe_slice sl_list he hl hu) fun σ H Q' ⟨ρ, n, F, Q, rel, h, k⟩ => ⟨ρ, n, F, _, rel, h, fun v t n1 F1 H1 f1 s1 r1 q1 => ⟨ρ, n1, F1, _, rel.go f1 s1, q1, fun a n2 F2 H2 f2 s2 q2 => ⟨ρ, n2, F2, _, (rel.go f1 s1).go f2 s2, q2, fun b n3 F3 H3 f3 s3 q3 => by
    have r3 := (r1.mono f2.le).mono f3.le
    cases r3 with
    | lst e r =>
      refine ⟨_, _, rfl, .inl (.inl (s3.at_ e)), fun p hp => ?_⟩
      obtain ⟨f4, s4⟩ := alloc (o := .lst (cutV _ a b)) s3 hp
      exact (((k.go f1).go f2).go f3) _ _ n3 _ _ f4 s4 (.lst updF_same ((r.cut a b).mono f4.le)) q3
    | _ => exact q3.elim⟩⟩⟩
def vCat : VR2
  | .lst xs, .lst ys, n, Q => xs.length + ys.length ≤ sizeLine ∧ Q (.lst (xs ++ ys)) n
  | _, _, _, _ => False
theorem ov_cat : OpR X (binaryOp .Add) (lR Γ vCat) := OpR.imp op_cat fun x y H Q' ⟨n, F, tx, ty, Q, ok, fr, s, rx, ry, q, k⟩ => by
  cases rx with
  | lst e r => cases ry with
    | lst e2 r2 =>
      refine ⟨_, _, _, _, rfl, rfl, s.at_ e, s.at_ e2, by rw [r.length, r2.length]; exact q.1, fun p hp => ?_⟩
      obtain ⟨f4, s4⟩ := alloc (o := .lst _) s hp
      exact k _ _ n _ _ f4 s4 (.lst updF_same ((r.append r2).mono f4.le)) q.2
    | _ => exact q.elim
  | _ => exact q.elim
/-! ### truth -/
def truT : Tr → Option Bool
  | .non => some false
  | .bl b => some b
  | .int i => some (i != 0)
  | .lst ts => some (!ts.isEmpty)
  | .tup ts => some (!ts.isEmpty)
  | _ => none
def truQ : Option Bool → Nat → (Bool → Nat → Prop) → Prop
  | some b, n, Q => Q b n
  | none, _, _ => False
def vTru (e : RE) : RT := fun n ρ Q => e n ρ fun t n1 => truQ (truT t) n1 Q
theorem tru_rep {g : Gb} {F : FH} {H : Hp} {n : Nat} {v : V} {t : Tr} {b : Bool} (s : Sub g n F H) (r : Rep g F v t) (h : truT t = some b) : TruV g.K v H b := by
  cases r with
  | non => cases h; rfl
  | bl b => cases h; rfl
  | int i => cases h; rfl
  | str x => cases h
  | tup e r =>
    cases h
    refine .inr (.inl ⟨_, sqT_sub s e, ?_⟩)
    cases r <;> rfl
  | lst e r =>
    cases h
    refine .inl ⟨_, .inl (.inl (s.at_ e)), ?_⟩
    cases r <;> rfl
  | _ => cases h
theorem vt_tru (hK : X.K = Γ.g.K) (he : PE X e (lE Γ te)) (hs : ∀ whole, isTrue e X.env whole = (do let v ← whole; standAt e.pos; holding [v] (truthy v)) := by intro _; rfl) : PT X e (lT Γ (vTru te)) :=
  PT.imp (pt_truth he hs) fun σ H Q' ⟨ρ, n, F, Q, rel, h, k⟩ => ⟨ρ, n, F, _, rel, h, fun v t n1 F1 H1 f1 s1 r1 q1 => by
    cases e : truT t with
    | none => rw [e] at q1; exact q1.elim
    | some b =>
      rw [e] at q1
      exact ⟨b, by rw [hK]; exact tru_rep s1 r1 e, k b n1 F1 H1 f1 s1 q1⟩⟩
/-! ### x += e -/
def augQ (i : Nat) (g : Int → Int → Int) (D : VEnds) (ρ : List Sl) (a : Int) : Tr → Nat → Prop
  | .int b, n => D.nx n (ρ.set i (.v (.int (g a b))))
  | _, _ => False
def augS (i : Nat) (g : Int → Int → Int) (D : VEnds) (ρ : List Sl) (e : RE) : Sl → Nat → Prop
  | .v (.int a), n => e n ρ (augQ i g D ρ a)
  | _, _ => False
def vAug (i : Nat) (g : Int → Int → Int) (e : RE) : RS := fun D n ρ => augS i g D ρ e (gt ρ i) n
theorem vs_aug {op : Operator} {g : Int → Int → Int} {pos' : Pos} (hN : X.N.Nodup) (hi : X.N[i]? = some x) (hx : Loc X.env.scope x) (he : PE X e (lE Γ te)) (ho : PIp X op (ipI g)) (hf : X.fn x = true ∨ X.env.scope.names.lookup x = some .local := by first | exact .inl rfl | exact .inr rfl | assumption) :
    PS X (.AugAssign (.Name x pos') op e pos) (lS Γ (vAug i g te)) := PS.imp (ps_aug hN hi hx he ho hf) fun D' σ H ⟨ρ, n, F, D, rel, h, ok⟩ => by
  have h : augS i g D ρ te (gt ρ i) n := h
  cases eg : gt ρ i with
  | v t =>
    rw [eg] at h
    cases t with
    | int a =>
      obtain ⟨o, h1, v, h2, r⟩ := rel.sl i _ (gt_get eg (fun z => nomatch z))
      subst h2
      cases r
      refine ⟨.int a, h1, ρ, n, F, _, rel, h, fun v t n1 F1 H1 f1 s1 r1 q1 => ?_⟩
      cases r1 with
      | int b => exact ⟨a, b, rfl, rfl, ok.nx _ n1 F1 _ H1 f1.le ((rel.go f1 s1).set (.int _)) q1⟩
      | _ => exact q1.elim
    | _ => exact h.elim
  | _ => rw [eg] at h; exact h.elim
end
end VL
/-! isinstance, == of data, in -/
namespace VL
open PySem L2 DS PyProof.Rows
inductive Bt where
  | int | bool | str | list | tuple | dict
def Bt.nm : Bt → String
  | .int => "int"
  | .bool => "bool"
  | .str => "str"
  | .list => "list"
  | .tuple => "tuple"
  | .dict => "dict"
/-- isinstance of a tree -/
def isBt (b : Bt) (t : Tr) : Option Bool := match t with
  | .opq _ => none
  | .scr _ => none
  | .int _ => some (match b with | .int => true | _ => false)
  | .bl _ => some (match b with | .int => true | .bool => true | _ => false)
  | .str _ => some (match b with | .str => true | _ => false)
  | .lst _ => some (match b with | .list => true | _ => false)
  | .tup _ => some (match b with | .tuple => true | _ => false)
  | .dct _ => some (match b with | .dict => true | _ => false)
  | .pen => some (match b with | .dict => true | _ => false)
  | .non => some false
  | .ins _ _ => some false
/-- the type of a tree -/
def tyT : Tr → Option Value
  | .non => some (.type "NoneType")
  | .bl _ => some (.type "bool")
  | .int _ => some (.type "int")
  | .str _ => some (.type "str")
  | .tup _ => some (.type "tuple")
  | .lst _ => some (.type "list")
  | .dct _ => some (.type "dict")
  | .pen => some (.type "dict")
  | .ins C _ => some (.ref C)
  | .opq _ => none
  | .scr _ => none
theorem ty_rep {g : Gb} {F : FH} {H : Hp} {n : Nat} {v : V} {t : Tr} {y : Value} (s : Sub g n F H) (r : Rep g F v t) (h : tyT t = some y) : TyX g.K H v y := by
  cases r with
  | non => cases h; exact .base .non
  | bl b => cases h; exact .base (.bl b)
  | int i => cases h; exact .base (.int i)
  | str x => cases h; exact .base (.str x)
  | tup e r =>
    cases h
    rcases sqT_sub s e with (q | ⟨o, q⟩) | ⟨o, its, m, q, c, _⟩
    · exact .base (.tup q)
    · exact .fTuple q
    · exact .kTuple q c
  | lst e r => cases h; exact .base (.lst (s.at_ e))
  | dct e r => cases h; exact .base (.dK (s.at_ e))
  | ins e c r => cases h; exact .base (.ins (s.at_ e) c.cl c.ha c.hn c.htk c.hm)
  | opq v => cases h
  | scr e => cases h
  | pen e =>
    cases h
    obtain ⟨c, ns, a, l, h1, _⟩ := (s.pen _ e).ex
    exact .base (.dK h1)
theorem isBt_kit {g : Gb} {F : FH} {H : Hp} {n : Nat} {v : V} {t : Tr} {b : Bt} {r : Bool} (s : Sub g n F H) (q : Rep g F v t) (h : isBt b t = some r) : ∃ y, TyX g.K H v y ∧ PySem.W.kitOne g.K y (.type b.nm) = some r := by
  have kk : ∀ {y : Value}, tyT t = some y → PySem.W.kitOne g.K y (.type b.nm) = some r → ∃ y, TyX g.K H v y ∧ PySem.W.kitOne g.K y (.type b.nm) = some r := fun e k => ⟨_, ty_rep s q e, k⟩
  cases q with
  | non => cases b <;> cases h <;> exact kk rfl (kit_ty (by decide +kernel))
  | bl x => cases b <;> cases h <;> exact kk rfl (kit_ty (by decide +kernel))
  | int x => cases b <;> cases h <;> exact kk rfl (kit_ty (by decide +kernel))
  | str x => cases b <;> cases h <;> exact kk rfl (kit_ty (by decide +kernel))
  | tup e r => cases b <;> cases h <;> exact kk rfl (kit_ty (by decide +kernel))
  | lst e r => cases b <;> cases h <;> exact kk rfl (kit_ty (by decide +kernel))
  | dct e r => cases b <;> cases h <;> exact kk rfl (kit_ty (by decide +kernel))
  | pen e => cases b <;> cases h <;> exact kk rfl (kit_ty (by decide +kernel))
  | opq v => cases b <;> cases h
  | scr v => cases b <;> cases h
  | ins e c r =>
    cases b <;> cases h
    · exact kk rfl c.ki
    · exact kk rfl c.kb
    · exact kk rfl c.ks
    · exact kk rfl c.kl
    · exact kk rfl c.kt
    · exact kk rfl c.kd
def isQ : Option Bool → Nat → VQ → Prop
  | some b, n, Q => Q (.bl b) n
  | none, _, _ => False
def cIsB (b : Bt) : VRL
  | [t, .opq (.ty s)], n, Q => s = b.nm ∧ isQ (isBt b t) n Q
  | _, _, _ => False
section
variable {X : Cx} {Γ : Cn} {e : Expr} {es : List Expr} {te ta tb : RE} {tl : RA} {pos p : Pos} {i : Nat} {x : Str}
theorem cv_isB (b : Bt) (hK : X.K = Γ.g.K) : CallR X (.builtin "isinstance") (lC Γ (cIsB b)) := CallR.imp call_isi fun xs H Q' ⟨n, F, ts, Q, ok, fr, s, r, q, k⟩ => by
  match ts, q, r with
  | [t, .opq (.ty sn)], q, r =>
    obtain ⟨v, w, rfl, r1, r2⟩ := r.two
    obtain ⟨rfl, q⟩ := q
    cases r2
    cases e : isBt b t with
    | none => rw [e] at q; exact q.elim
    | some z =>
      rw [e] at q
      obtain ⟨y, h1, h2⟩ := isBt_kit s r1 e
      exact ⟨v, .ty b.nm, y, _, z, rfl, .ty _, by rw [hK]; exact h1, by rw [hK]; exact h2, k.here s (.bl _) q⟩
/-- isinstance(x, C), C an own class -/
structure IsC (K : PySem.W.Frag) (C : Addr) : Prop where
  own : PySem.W.kitOne K (.ref C) (.ref C) = some true
  non : PySem.W.kitOne K (.type "NoneType") (.ref C) = some false
  bl : PySem.W.kitOne K (.type "bool") (.ref C) = some false
  int : PySem.W.kitOne K (.type "int") (.ref C) = some false
  str : PySem.W.kitOne K (.type "str") (.ref C) = some false
  tup : PySem.W.kitOne K (.type "tuple") (.ref C) = some false
  lst : PySem.W.kitOne K (.type "list") (.ref C) = some false
  dct : PySem.W.kitOne K (.type "dict") (.ref C) = some false
def isCQ (C : Addr) (Q : VQ) : Tr → Nat → Prop
  | .ins D _, n => D = C ∧ Q (.bl true) n
  | .opq _, _ => False
  | .scr _, _ => False
  | _, n => Q (.bl false) n
def cIsC (C : Addr) : VRL
  | [t, .opq (.ref D)], n, Q => D = C ∧ isCQ C Q t n
  | _, _, _ => False
theorem cv_isC {C : Addr} (hK : X.K = Γ.g.K) (ic : IsC Γ.g.K C) : CallR X (.builtin "isinstance") (lC Γ (cIsC C)) := CallR.imp call_isi fun xs H Q' ⟨n, F, ts, Q, ok, fr, s, r, q, k⟩ => by
  match ts, q, r with
  | [t, .opq (.ref D)], q, r =>
    obtain ⟨v, w, rfl, r1, r2⟩ := r.two
    obtain ⟨rfl, q⟩ := q
    cases r2
    have fin : ∀ {y : Value} {z : Bool}, tyT t = some y → PySem.W.kitOne Γ.g.K y (.ref D) = some z → Q (.bl z) n → rIsi X.K [v, .ref D] H Q' := fun {y z} h1 h2 q => ⟨v, .ref D, y, _, z, rfl, .own _, by rw [hK]; exact ty_rep s r1 h1, by rw [hK]; exact h2, k.here s (.bl _) q⟩
    cases t with
    | non => exact fin rfl ic.non q
    | bl b => exact fin rfl ic.bl q
    | int b => exact fin rfl ic.int q
    | str b => exact fin rfl ic.str q
    | tup b => exact fin rfl ic.tup q
    | lst b => exact fin rfl ic.lst q
    | dct b => exact fin rfl ic.dct q
    | pen => exact fin rfl ic.dct q
    | opq v => exact q.elim
    | scr v => exact q.elim
    | ins D2 fs =>
      obtain ⟨e3, q3⟩ := q
      subst e3
      exact fin rfl ic.own q3
/-- isinstance(x, (list, tuple)) -/
def isSeq : Tr → Option Bool
  | .lst _ => some true
  | .tup _ => some true
  | .opq _ => none
  | .scr _ => none
  | _ => some false
def vIsSeq (a : RE) : RE := fun n ρ Q => a n ρ fun t n1 => isQ (isSeq t) n1 Q
theorem ve_isSeq (hK : X.K = Γ.g.K) (he : PE X e (tCB (rIsiT X.K) (tCons (lE Γ te) (tCons (tTup (tCons (tC (.ty "list")) (tCons (tC (.ty "tuple")) tNil))) tNil)))) : PE X e (lE Γ (vIsSeq te)) :=
  PE.imp he fun σ H Q' ⟨ρ, n, F, Q, rel, h, k⟩ => ⟨ρ, n, F, _, rel, h, fun v t n1 F1 H1 f1 s1 r1 q1 => by
    refine ⟨Nat.le_of_ble_eq_true rfl, fun p hp => ?_⟩
    obtain ⟨f2, s2⟩ := alloc (o := .tup [.ty "list", .ty "tuple"]) s1 hp
    have r2 := r1.mono f2.le
    have fin : ∀ {y : Value} {z : Bool}, tyT t = some y → PySem.W.kitAny Γ.g.K y [.type "list", .type "tuple"] = some z → Q (.bl z) n1 → rIsiT X.K [v, .ref p] (upd H1 p (.tup [.ty "list", .ty "tuple"])) Q' := fun {y z} h1 h2 q => ⟨v, p, _, y, _, z, rfl, upd_same, .cons (.ty _) (.cons (.ty _) .nil), by rw [hK]; exact ty_rep s2 r2 h1, by rw [hK]; exact h2, (k.go f1) _ _ n1 _ _ f2 s2 (.bl _) q⟩
    have two : ∀ {a : String} {z1 z2 : Bool}, kitB a "list" = some z1 → kitB a "tuple" = some z2 → PySem.W.kitAny Γ.g.K (.type a) [.type "list", .type "tuple"] = some (z1 || z2) := fun {a z1 z2} h1 h2 => by
      refine kitAny_cons (b := z1) (kit_ty h1) (fun z => ?_) (fun z => by rw [z]; rfl)
      subst z
      exact kitAny_cons (b := z2) (kit_ty h2) (fun z => by subst z; rfl) (fun z => by rw [z]; rfl)
    cases t with
    | non => exact fin rfl (two (z1 := false) (z2 := false) (by decide +kernel) (by decide +kernel)) q1
    | bl b => exact fin rfl (two (z1 := false) (z2 := false) (by decide +kernel) (by decide +kernel)) q1
    | int b => exact fin rfl (two (z1 := false) (z2 := false) (by decide +kernel) (by decide +kernel)) q1
    | str b => exact fin rfl (two (z1 := false) (z2 := false) (by decide +kernel) (by decide +kernel)) q1
    | tup b => exact fin rfl (two (z1 := false) (z2 := true) (by decide +kernel) (by decide +kernel)) q1
    | lst b => exact fin rfl (two (z1 := true) (z2 := false) (by decide +kernel) (by decide +kernel)) q1
    | dct b => exact fin rfl (two (z1 := false) (z2 := false) (by decide +kernel) (by decide +kernel)) q1
    | pen => exact fin rfl (two (z1 := false) (z2 := false) (by decide +kernel) (by decide +kernel)) q1
    | opq v => exact q1.elim
    | scr v => exact q1.elim
    | ins C fs =>
      cases r1 with
      | ins e c r =>
        refine fin rfl (z := false) ?_ q1
        exact kitAny_cons c.kl (fun _ => kitAny_cons c.kt (fun _ => rfl) (fun z => nomatch z)) (fun z => nomatch z)⟩
/-! ### == of data -/
mutual
def toD : Tr → PyData
  | .non => .none
  | .bl b => .bool b
  | .int i => .int i
  | .str x => .str x
  | .tup ts => .tuple (toDs ts)
  | .lst ts => .list (toDs ts)
  | .dct _ => .none
  | .ins _ _ => .none
  | .opq _ => .none
  | .pen => .none
  | .scr _ => .none
def toDs : List Tr → List PyData
  | [] => []
  | t :: ts => toD t :: toDs ts
end
mutual
def isD : Tr → Bool
  | .non => true
  | .bl _ => true
  | .int _ => true
  | .str _ => true
  | .tup ts => isDs ts
  | .lst ts => isDs ts
  | .dct _ => false
  | .ins _ _ => false
  | .opq _ => false
  | .pen => false
  | .scr _ => false
def isDs : List Tr → Bool
  | [] => true
  | t :: ts => isD t && isDs ts
end
mutual
theorem dp_rep {g : Gb} {F : FH} {H : Hp} {n : Nat} (s : Sub g n F H) : ∀ {v : V} {t : Tr}, Rep g F v t → isD t = true → Dp g.K H v (toD t)
  | _, _, .non, _ => .non
  | _, _, .bl b, _ => .bl b
  | _, _, .int i, _ => .int i
  | _, _, .str x, _ => .str x
  | _, _, .tup e r, h => .tup (sqT_sub s e) (dp_reps s r h)
  | _, _, .lst e r, h => .lst (.inl (.inl (s.at_ e))) (dp_reps s r h)
  | _, _, .dct e r, h => Bool.noConfusion (show false = true from h)
  | _, _, .ins e c r, h => Bool.noConfusion (show false = true from h)
  | _, _, .opq v, h => Bool.noConfusion (show false = true from h)
  | _, _, .pen e, h => Bool.noConfusion (show false = true from h)
  | _, _, .scr e, h => Bool.noConfusion (show false = true from h)
theorem dp_reps {g : Gb} {F : FH} {H : Hp} {n : Nat} (s : Sub g n F H) : ∀ {vs : List V} {ts : List Tr}, Reps g F vs ts → isDs ts = true → DpAll g.K H vs (toDs ts)
  | _, _, .nil, _ => .nil
  | _, _, .cons r rs, h => by
    have h := (Bool.and_eq_true_iff (x := isD _) (y := isDs _)).mp h
    exact .cons (dp_rep s r h.1) (dp_reps s rs h.2)
end
def okD (t : Tr) : Prop := isD t = true ∧ SeqAt.shaped (toD t) = true
def eqT (t u : Tr) : Bool := PyData.eqv (toD t) (toD u)
def vEqD (neg : Bool) : VR2 := fun t u n Q => okD t ∧ okD u ∧ Q (.bl (if neg then !eqT t u else eqT t u)) n
theorem ov_eqD (hK : X.K = Γ.g.K) (hu : X.A.units + 64 < cLine) : OpR X (compareOp .Eq) (lR Γ (vEqD false)) := OpR.imp (op_eqD hu) fun x y H Q' ⟨n, F, tx, ty, Q, ok, fr, s, rx, ry, q, k⟩ =>
  ⟨_, _, by rw [hK]; exact dp_rep s rx q.1.1, by rw [hK]; exact dp_rep s ry q.2.1.1, q.1.2, q.2.1.2, k.here s (.bl _) q.2.2⟩
theorem ov_neD (hK : X.K = Γ.g.K) (hu : X.A.units + 64 < cLine) : OpR X (compareOp .NotEq) (lR Γ (vEqD true)) := OpR.imp (op_neD hu) fun x y H Q' ⟨n, F, tx, ty, Q, ok, fr, s, rx, ry, q, k⟩ =>
  ⟨_, _, by rw [hK]; exact dp_rep s rx q.1.1, by rw [hK]; exact dp_rep s ry q.2.1.1, q.1.2, q.2.1.2, k.here s (.bl _) q.2.2⟩
/-! ### in -/
def inSQ (neg : Bool) (x : Str) (ts : List Tr) (n : Nat) (Q : VQ) : Prop := ∃ l : List Str, ts = l.map Tr.str ∧ Q (.bl (if neg then !decide (x ∈ l) else decide (x ∈ l))) n
def vIn (neg : Bool) : VR2
  | .str x, .tup ts, n, Q => inSQ neg x ts n Q
  | .str x, .lst ts, n, Q => inSQ neg x ts n Q
  | _, _, _, _ => False
theorem ov_in (hK : X.K = Γ.g.K) : OpR X (compareOp .In) (lR Γ (vIn false)) := OpR.imp op_in_seq fun x y H Q' ⟨n, F, tx, ty, Q, ok, fr, s, rx, ry, q, k⟩ => by
  cases rx with
  | str x => cases ry with
    | tup e r =>
      obtain ⟨l, rfl, q⟩ := q
      have e2 := r.strs
      subst e2
      refine ⟨_, _, rfl, .inr (by rw [hK]; exact sqT_sub s e), rfl, DS.flat_strs l, k.here s (.bl _) ?_⟩
      rw [if_neg Bool.false_ne_true, inV_strs]
      exact q
    | lst e r =>
      obtain ⟨l, rfl, q⟩ := q
      have e2 := r.strs
      subst e2
      refine ⟨_, _, rfl, .inl (.inl (.inl (s.at_ e))), rfl, DS.flat_strs l, k.here s (.bl _) ?_⟩
      rw [if_neg Bool.false_ne_true, inV_strs]
      exact q
    | _ => exact q.elim
  | _ => exact q.elim
theorem ov_notIn (hK : X.K = Γ.g.K) : OpR X (compareOp .NotIn) (lR Γ (vIn true)) := OpR.imp op_notIn_seq fun x y H Q' ⟨n, F, tx, ty, Q, ok, fr, s, rx, ry, q, k⟩ => by
  cases rx with
  | str x => cases ry with
    | tup e r =>
      obtain ⟨l, rfl, q⟩ := q
      have e2 := r.strs
      subst e2
      refine ⟨_, _, rfl, .inr (by rw [hK]; exact sqT_sub s e), rfl, DS.flat_strs l, k.here s (.bl _) ?_⟩
      rw [if_pos rfl, inV_strs]
      exact q
    | lst e r =>
      obtain ⟨l, rfl, q⟩ := q
      have e2 := r.strs
      subst e2
      refine ⟨_, _, rfl, .inl (.inl (.inl (s.at_ e))), rfl, DS.flat_strs l, k.here s (.bl _) ?_⟩
      rw [if_pos rfl, inV_strs]
      exact q
    | _ => exact q.elim
  | _ => exact q.elim
end
/-! ### pens -/
theorem FnOk.cx {P : Program} {w : World} {K : PySem.W.Frag} {mg : Str → Option Value} {base : Heap} {CX : CXT} {k : Nat} {f : Addr} {fd : FuncData} {ps : List Str} {sp : Sp} (F : FnOk P w K mg base CX0 k f fd ps sp) : FnOk P w K mg base CX k f fd ps sp :=
  ⟨F.len, fun A outer s H args us vs Q E hr e0 hb r hs => codeAny_mono (F.run A outer s H args us vs Q E hr e0 hb r hs) fun r s' h => by
    cases r with
    | error e => exact h.elim
    | ok fl => cases fl <;> exact h⟩
end VL
/-! pens, the law's end, small words -/
namespace VL
open PySem L2 DS PyProof.Rows
theorem vpv {X : Cx} {Γ : Cn} (i : Nat) {x : Str} {pos : Pos} (hN : X.N[i]? = some x := by rfl) (hv : Vis X.env.scope x := by first | exact Or.inl rfl | exact Or.inr (Or.inl rfl) | exact Or.inr (Or.inr rfl)) (hd : (x == ("__debug__" : Str)) = false := by decide) (hcd : (x == ("__classdict__" : Str)) = false := by decide) : PE X (.Name x pos) (lE Γ (vVar i)) := ve_var hN hv hd hcd
/-- self.a, self.b = e -/
def self2P (C : Addr) (i : Nat) (a b : Str) (D : VEnds) (ρ : List Sl) (c x dx : Addr) (fs : List (Str × Tr)) : Tr → Nat → Prop
  | .tup [t, u], n => D.nx n (ρ.set i (.oi c x dx (putT b u (putT a t fs))))
  | _, _ => False
def self2Q (C : Addr) (i : Nat) (a b : Str) (D : VEnds) (ρ : List Sl) (e : RE) : Sl → Nat → Prop
  | .oi C' x dx fs, n => C' = C ∧ fs.length < 999 ∧ e n ρ (self2P C i a b D ρ C' x dx fs)
  | _, _ => False
def vSelf2 (C : Addr) (i : Nat) (a b : Str) (e : RE) : RS := fun D n ρ => self2Q C i a b D ρ e (gt ρ i) n
theorem putT_len (f : Str) (t : Tr) : ∀ fs : List (Str × Tr), (putT f t fs).length ≤ fs.length + 1
  | [] => Nat.le_refl _
  | (x, u) :: r => by
    show (if x = f then (x, t) :: r else (x, u) :: putT f t r).length ≤ r.length + 1 + 1
    split
    · show r.length + 1 ≤ _; omega
    · show (putT f t r).length + 1 ≤ _
      have := putT_len f t r
      omega
theorem set_same {α : Type} : ∀ {l : List α} {i : Nat} {x : α}, l[i]? = some x → l.set i x = l
  | [], _, _, h => rfl
  | _ :: _, 0, _, h => by cases h; rfl
  | _ :: r, i + 1, x, h => by
    show _ :: r.set i x = _
    rw [set_same (l := r) (by simpa using h)]
theorem vs_self2 {X : Cx} {Γ : Cn} {st : Stmt} {te : RE} {i : Nat} {C : Addr} {a b : Str} (hK : X.K = Γ.g.K) (hna : NoAttr X.K C a) (hnb : NoAttr X.K C b) (h : PS X st (tAsg (lE Γ te) (L2.gTup X.K 2 (L2.gCons (gFld X.K (tVar i) a) (L2.gCons (gFld X.K (tVar i) b) L2.gNil))))) : PS X st (lS Γ (vSelf2 C i a b te)) :=
  PS.imp h fun D' σ H ⟨ρ, n, F, D, rel, h, ok⟩ => by
    have h : self2Q C i a b D ρ te (gt ρ i) n := h
    cases eg : gt ρ i with
    | oi C' x dx fs =>
      rw [eg] at h
      obtain ⟨rfl, hl, h⟩ := h
      refine ⟨ρ, n, F, _, rel, h, fun v t n1 F1 H1 f1 s1 r1 q1 => ?_⟩
      have rel1 := rel.go f1 s1
      obtain ⟨fvs, ei, es, h2, h3, h4, h5, h6⟩ := oi_get rel1 eg
      cases r1 with
      | tup e r =>
        rename_i ad vs ts
        match ts, q1, r with
        | [t, u], q1, r =>
          obtain ⟨v, w, rfl, r1, r2⟩ := r.two
          refine ⟨ad, [v, w], rfl, by rw [hK]; exact sqT_sub s1 e, rfl, ?_⟩
          have k1 := rel1.updO (s1 := .oi C' x dx (putT a t fs)) ei rfl rfl es h2 (plain_ins _ _ _) h3 h4 ⟨putF a v fvs, rfl, upd_same, h3, h4, h5, h6.put r1⟩
          have g1 : (ρ.set i (.oi C' x dx (putT a t fs)))[i]? = some (.oi C' x dx (putT a t fs)) := by
            rw [List.getElem?_set, if_pos rfl, if_pos (List.getElem?_eq_some_iff.mp ei).1]
          have k2 := k1.updO (s1 := .oi C' x dx (putT b u (putT a t fs))) g1 rfl rfl es upd_same (plain_ins _ _ _) h3 h4 ⟨putF b w (putF a v fvs), rfl, upd_same, h3, h4, h5, (h6.put r1).put r2⟩
          rw [List.set_set] at k2
          have lf := h6.length
          have lp := putF_len a v fvs
          exact ⟨v, [w], rfl, .ref x, es, x, C', dx, fvs, rfl, h2, by rw [hK]; exact h5.cl, hna, by omega, w, [], rfl, .ref x, es, x, C', dx, _, rfl, upd_same, by rw [hK]; exact h5.cl, hnb, by omega, rfl, ok.nx _ n1 F1 σ _ f1.le k2 q1⟩
      | _ => exact q1.elim
    | _ => rw [eg] at h; exact h.elim
/-! ### draws -/
def ButV (d : Addr) (H H' : Hp) : Prop := ∀ b o, b ≠ d → H b = some o → H' b = some o
theorem ButV.refl (d : Addr) (H : Hp) : ButV d H H := fun _ _ _ h => h
theorem ButV.trans {d : Addr} {H H1 H2 : Hp} (a : ButV d H H1) (b : ButV d H1 H2) : ButV d H H2 := fun c o n h => b c o n (a c o n h)
theorem ButV.same {d : Addr} {H H1 H2 : Hp} (a : ButV d H H1) (b : Same H1 H2) : ButV d H H2 := fun c o n h => b c o (a c o n h)
theorem ButV.upd {d : Addr} {H : Hp} {o : HO} : ButV d H (L2.upd H d o) := fun b u n h => by rw [upd_ne n]; exact h
/-- a pen has been drawn from -/
theorem pen_end {g : Gb} {F : FH} {H H' : Hp} {d c : Addr} {n : Nat} {ns : List Int} {a l : Int} {Q : VQ} {Q' : VK} {v : V} {t : Tr} (k : Then g F H Q Q') (s : Sub g n F H) (hd : F d = some .pen) (bt : ButV d H H') (e : H' d = some (.dK (pend g.pk c a l))) (hc : F c = some (.ob (.lst (ns.map V.int)))) (a0 : 0 ≤ a) (a1 : a ≤ ((n + 1 : Nat) : Int)) (l0 : 0 ≤ l) (hl : ns.length ≤ 63) (hz : g.pz = true → 0 < ns.length) (r : Rep g F v t) (q : Q t (n + 1)) : Q' v H' := by
  have nd : ∀ {b : Addr} {o : HO}, F b = some (.ob o) → b ≠ d := fun {b o} h z => by rw [z, hd] at h; cases h
  refine k v t (n + 1) F H' ⟨le.refl _, fun a h => .inl h, fun b o h np _ => bt b o (fun z => np (by rw [z]; exact hd)) h, fun b h => ?_⟩ ⟨fun b o h => bt b o (nd (hp_eq.mp h)) (s.ob b o h), fun b h => ?_, fun p hp => ?_, s.nt⟩ r q
  · by_cases z : b = d
    · rw [z, nt_some e (fun _ z => nomatch z)]; intro w; cases w
    · cases q : nt H b with
      | none => exact absurd q h
      | some o =>
        obtain ⟨q1, q2⟩ := nt_get q
        rw [nt_some (bt b o z q1) q2]; intro w; cases w
  · by_cases z : b = d
    · subst z
      exact ⟨c, ns, a, l, e, hc, a0, a1, l0, hl, hz⟩
    · obtain ⟨c', ns', a', l', h1, h2, h3, h4, h5⟩ := (s.pen b h).ex
      exact ⟨c', ns', a', l', bt b _ z h1, h2, h3, by omega, h5⟩
  · obtain ⟨ps, h1, h2, h3⟩ := s.tab p hp
    obtain ⟨c', ns', a', l', g1, _⟩ := (s.pen d hd).ex
    refine ⟨ps, bt _ _ (ne_of h1 g1 (by intro z; cases z)) h1, h2, fun pos cv hc => ?_⟩
    obtain ⟨c2, e1, e2⟩ := h3 pos cv hc
    exact ⟨c2, e1, bt _ _ (ne_of e2 g1 (by intro z; cases z)) e2⟩
/-- draw(pen, many): a number below many -/
def vdraw : VSp
  | [.pen, .int m], n, Q, _ => 0 < m ∧ m < 2 ^ 200 ∧ n ≤ 1000000 ∧ ∀ d, 0 ≤ d → d < m → Q (.int d) (n + 1)
  | _, _, _, _ => False
/-- pick(pen, list) -/
def vpick : VSp
  | [.pen, .lst ts], n, Q, _ => 0 < ts.length ∧ ts.length ≤ 1000 ∧ n ≤ 1000000 ∧ ∀ t ∈ ts, Q t (n + 1)
  | _, _, _, _ => False
/-- a pen of a script -/
def vbegin : VSp
  | [.scr ns], n, Q, _ => ns.length ≤ 63 ∧ Q .pen n
  | _, _, _, _ => False
/-- ten to a power -/
def vten : VSp
  | [.int i], n, Q, _ => ∃ k : Nat, i = k ∧ k ≤ 600 ∧ Q (.int (10 ^ k)) n
  | _, _, _, _ => False
theorem begin_end {g : Gb} {F : FH} {H H1 H2 : Hp} {p c : Addr} {n : Nat} {ns : List Int} {Q : VQ} {Q' : VK} (k : Then g F H Q Q') (s : Sub g n F H) (hp : H p = none) (hc : H c = none) (ne : p ≠ c) (sm : Same H H2) (e : H2 p = some (.dK (pend g.pk c 0 0))) (ec : H2 c = some (.lst (ns.map V.int))) (hl : ns.length ≤ 63) (hz : g.pz = true → 0 < ns.length) (q : Q .pen n) : Q' (.ref p) H2 := by
  have fp := s.free hp
  have fc := s.free hc
  have l1 : le F (updF (updF F c (.ob (.lst (ns.map V.int)))) p .pen) := (le_updF fc).trans (le_updF (by rw [updF_ne ne]; exact fp))
  refine k (.ref p) .pen n (updF (updF F c (.ob (.lst (ns.map V.int)))) p .pen) H2 ⟨l1, fun a h => ?_, fun a o h _ _ => sm a o h, fun a h => ?_⟩ ⟨fun a o h => ?_, fun a h => ?_, s.tab.ext sm, fun a ps h => ?_⟩ (.pen updF_same) q
  · by_cases z : a = p
    · exact .inr (by rw [z]; exact nt_none hp)
    · rw [updF_ne z] at h
      by_cases w : a = c
      · exact .inr (by rw [w]; exact nt_none hc)
      · rw [updF_ne w] at h; exact .inl h
  · cases q : nt H a with
    | none => exact absurd q h
    | some o =>
      obtain ⟨q1, q2⟩ := nt_get q
      rw [nt_some (sm a o q1) q2]; intro w; cases w
  · have h := hp_eq.mp h
    have z : a ≠ p := fun z => by rw [z, updF_same] at h; cases h
    rw [updF_ne z] at h
    by_cases w : a = c
    · subst w
      rw [updF_same] at h
      cases h
      exact ec
    · rw [updF_ne w] at h
      exact sm _ _ (s.at_ h)
  · by_cases z : a = p
    · subst z
      refine ⟨c, ns, 0, 0, e, ?_, Int.le_refl _, Int.natCast_nonneg _, Int.le_refl _, hl, hz⟩
      rw [updF_ne (Ne.symm ne), updF_same]
    · rw [updF_ne z] at h
      have w : a ≠ c := fun w => by rw [w, updF_same] at h; cases h
      rw [updF_ne w] at h
      obtain ⟨c', ns', a', l', h1, h2, h3⟩ := (s.pen a h).ex
      exact ⟨c', ns', a', l', sm _ _ h1, l1 _ _ h2, h3⟩
  · by_cases z : a = p
    · subst z; rw [updF_same] at h; cases h
    · rw [updF_ne z] at h
      by_cases w : a = c
      · subst w; rw [updF_same] at h; cases h
      · rw [updF_ne w] at h; exact s.nt a ps h
/-! ### the law's end -/
def vlaw : VSp
  | [.scr ns], n, Q, _ => ns.length ≤ 63 ∧ n = 0 ∧ ∀ n', Q (.bl true) n'
  | _, _, _, _ => False
def spLaw (K : PySem.W.Frag) : Sp := fun vs H Q _ => ∃ (a : Addr) (ns : List Int), vs = [.ref a] ∧ SqL K H a (ns.map V.int) ∧ ns.length ≤ 63 ∧ ∀ H', Q (.bl true) H'
theorem law_end {P : Program} {w : World} {K : PySem.W.Frag} {mg : Str → Option Value} {base : Heap} {k : Nat} {f : Addr} {fd : FuncData} {ps : List Str} {pk : Str × Str × Str} {pz : Bool} (F : FnOk P w K mg base (L2.CX P w) k f fd ps (lSp ⟨K, [], pk, pz⟩ 1 vlaw)) : FnOk P w K mg base CX0 k f fd ps (spLaw K) := by
  have key : ∀ vs H Q E, spLaw K vs H Q E → lSp ⟨K, [], pk, pz⟩ 1 vlaw vs H Q (fun _ _ _ => False) := fun vs H Q E ⟨a, ns, e, sq, hl, q⟩ => by
    subst e
    have fin : ∀ F0 : FH, Sub ⟨K, [], pk, pz⟩ 0 F0 H → SqL K (hp F0) a (ns.map V.int) → lSp ⟨K, [], pk, pz⟩ 1 vlaw [.ref a] H Q (fun _ _ _ => False) := fun F0 s sq =>
      ⟨0, F0, [.scr ns], fun t _ => t = .bl true, fun _ _ _ => False, rfl, s, .cons (.scr sq) .nil, ⟨hl, rfl, fun _ => rfl⟩, fun v t n' F' H' f' s' r' q' => by
        subst q'
        cases r'
        exact q H', fun _ _ _ _ _ _ _ _ _ _ _ z => z⟩
    have one : ∀ o, H a = some o → (∀ ps, o ≠ .tbl ps) → Sub ⟨K, [], pk, pz⟩ 0 (updF (fun _ => none) a (.ob o)) H := fun o e no => by
      refine ⟨fun b u h => ?_, fun b h => ?_, (fun p hp => nomatch hp), fun b ps h => ?_⟩
      · have h := hp_eq.mp h
        by_cases z : b = a
        · subst z; rw [updF_same] at h; cases h; exact e
        · rw [updF_ne z] at h; cases h
      · by_cases z : b = a
        · subst z; rw [updF_same] at h; cases h
        · rw [updF_ne z] at h; cases h
      · by_cases z : b = a
        · subst z; rw [updF_same] at h; cases h; exact no _ rfl
        · rw [updF_ne z] at h; cases h
    rcases sq with (sq | ⟨o, sq⟩) | sq
    · exact fin _ (one _ sq (fun _ z => nomatch z)) (.inl (.inl (hp_eq.mpr updF_same)))
    · exact fin _ (one _ sq (fun _ z => nomatch z)) (.inl (.inr ⟨o, hp_eq.mpr updF_same⟩))
    · refine fin (fun _ => none) ⟨fun b u h => ?_, fun b h => ?_, (fun p hp => nomatch hp), fun b ps h => ?_⟩ (.inr sq)
      · have h := hp_eq.mp h
        cases h
      · cases h
      · cases h
  refine ⟨fun vs H Q E h => F.len _ _ _ _ (key _ _ _ _ h), fun A outer s H args us vs Q E hr e0 hb r hs => codeAny_mono (F.run A outer s H args us vs Q _ hr e0 hb r (key _ _ _ _ hs)) fun r s' h => ?_⟩
  cases r with
  | error e =>
    obtain ⟨_, _, _, _, _, _, _, _, _, _, _, _, z⟩ := h
    exact z.elim
  | ok fl => cases fl <;> exact h
end VL
/-! words for walking at trees -/
namespace VL
open PySem L2 DS
section
variable {t u : RE} {c d : RT} {a b : RS} {n : Nat} {ρ : List Sl} {Q : VQ} {R : Bool → Nat → Prop} {D : VEnds} {p : Prop} [Decidable p] {k : Bool}
theorem brE_true : brE true t u n ρ Q = t n ρ Q := rfl
theorem brE_false : brE false t u n ρ Q = u n ρ Q := rfl
theorem brT_true : brT true c d n ρ R = c n ρ R := rfl
theorem brT_false : brT false c d n ρ R = d n ρ R := rfl
theorem brS_true : brS true a b D n ρ = a D n ρ := rfl
theorem brS_false : brS false a b D n ρ = b D n ρ := rfl
theorem brE_d (h1 : p → t n ρ Q) (h2 : ¬ p → u n ρ Q) : brE (decide p) t u n ρ Q := by
  by_cases h : p
  · rw [decide_eq_true h]; exact h1 h
  · rw [decide_eq_false h]; exact h2 h
theorem brT_d (h1 : p → c n ρ R) (h2 : ¬ p → d n ρ R) : brT (decide p) c d n ρ R := by
  by_cases h : p
  · rw [decide_eq_true h]; exact h1 h
  · rw [decide_eq_false h]; exact h2 h
theorem brS_d (h1 : p → a D n ρ) (h2 : ¬ p → b D n ρ) : brS (decide p) a b D n ρ := by
  by_cases h : p
  · rw [decide_eq_true h]; exact h1 h
  · rw [decide_eq_false h]; exact h2 h
theorem brE_n (h1 : ¬ p → t n ρ Q) (h2 : p → u n ρ Q) : brE (!decide p) t u n ρ Q := by
  by_cases h : p
  · rw [decide_eq_true h]; exact h2 h
  · rw [decide_eq_false h]; exact h1 h
theorem brT_n (h1 : ¬ p → c n ρ R) (h2 : p → d n ρ R) : brT (!decide p) c d n ρ R := by
  by_cases h : p
  · rw [decide_eq_true h]; exact h2 h
  · rw [decide_eq_false h]; exact h1 h
theorem brS_n (h1 : ¬ p → a D n ρ) (h2 : p → b D n ρ) : brS (!decide p) a b D n ρ := by
  by_cases h : p
  · rw [decide_eq_true h]; exact h2 h
  · rw [decide_eq_false h]; exact h1 h
theorem brE_b (h1 : k = true → t n ρ Q) (h2 : k = false → u n ρ Q) : brE k t u n ρ Q := by
  cases k with
  | true => exact h1 rfl
  | false => exact h2 rfl
theorem brT_b (h1 : k = true → c n ρ R) (h2 : k = false → d n ρ R) : brT k c d n ρ R := by
  cases k with
  | true => exact h1 rfl
  | false => exact h2 rfl
theorem brS_b (h1 : k = true → a D n ρ) (h2 : k = false → b D n ρ) : brS k a b D n ρ := by
  cases k with
  | true => exact h1 rfl
  | false => exact h2 rfl
end
theorem B.ite {k l : Nat} {a b : Int} {p : Prop} [Decidable p] (h : B k a) (g : B l b) : B (max k l) (if p then a else b) := by
  split
  · exact h.mono (Nat.le_max_left _ _)
  · exact g.mono (Nat.le_max_right _ _)
theorem cdivw {a b : Int} {k : Nat} (h0 : 0 < b) (h : B k b) (e : k ≤ 9000) : CDivW a b := ⟨h0, h.log h0 e⟩
theorem cmula {a b : Int} {k l : Nat} (h : B k a) (g : B l b) (e : k + l ≤ 999998) : CMulA a b := CMulA.w h g e
theorem B.len {α : Type} (l : List α) (h : l.length ≤ 1000000) : B 20 ((l.length : Nat) : Int) := by
  show Int.natAbs _ < 2 ^ 20
  rw [Int.natAbs_natCast]
  exact Nat.lt_of_le_of_lt h (by decide)
/-! ### loops and comprehensions by invariants -/
theorem forW_ind {g : RG} {tb : RS} {D : VEnds} (I : Nat → Nat → List Sl → Prop) : ∀ {ts : List Tr} {n : Nat} {ρ : List Sl} (i : Nat), I i n ρ → (∀ (j : Nat) (t : Tr) n ρ, ts[j]? = some t → I (i + j) n ρ → ∀ K : Nat → List Sl → Prop, (∀ n ρ, I (i + j + 1) n ρ → K n ρ) → g t n ρ fun n1 ρ1 => tb { D with nx := K, ct := K, bk := D.nx } n1 ρ1) → (∀ n ρ, I (i + ts.length) n ρ → D.nx n ρ) → forW g tb D ts n ρ
  | [], n, ρ, i, h, _, hd => hd n ρ h
  | t :: ts, n, ρ, i, h, hs, hd => hs 0 t n ρ rfl h (forW g tb D ts) fun n ρ h1 => forW_ind I (i + 1) h1 (fun j t n ρ e hI K hK => by
      have := hs (j + 1) t n ρ (by simpa using e) (by rw [show i + (j + 1) = i + 1 + j by omega]; exact hI) K (fun n ρ q => hK n ρ (by rw [show i + 1 + j + 1 = i + (j + 1) + 1 by omega]; exact q))
      exact this) (fun n ρ hI => hd n ρ (by rw [List.length_cons, show i + (ts.length + 1) = i + 1 + ts.length by omega]; exact hI))
/-- a loop by an invariant over the turn -/
theorem for_inv {g : RG} {tb : RS} {D : VEnds} {ts : List Tr} {n : Nat} {ρ : List Sl} (I : Nat → Nat → List Sl → Prop) (h0 : I 0 n ρ) (hs : ∀ (j : Nat) (t : Tr) n ρ, ts[j]? = some t → I j n ρ → ∀ K : Nat → List Sl → Prop, (∀ n ρ, I (j + 1) n ρ → K n ρ) → g t n ρ fun n1 ρ1 => tb { D with nx := K, ct := K, bk := D.nx } n1 ρ1) (hd : ∀ n ρ, I ts.length n ρ → D.nx n ρ) : forW g tb D ts n ρ :=
  forW_ind I 0 h0 (fun j t n ρ e h K hK => by rw [Nat.zero_add] at h hK; exact hs j t n ρ e h K hK) (fun n ρ h => hd n ρ (by rw [Nat.zero_add] at h; exact h))
/-- a comprehension by an invariant over the turn and what is made -/
theorem lc_ind {g : RG} {tt : RT} {te : RE} {ρ : List Sl} {Q : VQ} (I : Nat → List Tr → Nat → Prop) : ∀ {ts acc : List Tr} {n : Nat} (i : Nat), acc.length + ts.length ≤ sizeLine → I i acc n → (∀ (j : Nat) (t : Tr) acc n, ts[j]? = some t → I (i + j) acc n → ∀ (K1 : VQ) (K2 : Nat → Prop), (∀ y n, I (i + j + 1) (acc ++ [y]) n → K1 y n) → (∀ n, I (i + j + 1) acc n → K2 n) → g t n ρ fun n1 ρ1 => tt n1 ρ1 fun b n2 => if b = true then te n2 ρ1 K1 else K2 n2) → (∀ acc n, I (i + ts.length) acc n → Q (.lst acc) n) → lcW g tt te ρ Q ts acc n
  | [], acc, n, i, _, h, _, hd => hd acc n h
  | t :: ts, acc, n, i, hl, h, hs, hd => by
    have hl' : acc.length + ts.length + 1 ≤ sizeLine := by rw [List.length_cons] at hl; omega
    have rest : ∀ acc' n', acc'.length ≤ acc.length + 1 → I (i + 1) acc' n' → lcW g tt te ρ Q ts acc' n' := fun acc' n' la hI => lc_ind I (i + 1) (by omega) hI (fun j t acc n e hI K1 K2 h1 h2 => hs (j + 1) t acc n (by simpa using e) (by rw [show i + (j + 1) = i + 1 + j by omega]; exact hI) K1 K2 (fun y n q => h1 y n (by rw [show i + 1 + j + 1 = i + (j + 1) + 1 by omega]; exact q)) (fun n q => h2 n (by rw [show i + 1 + j + 1 = i + (j + 1) + 1 by omega]; exact q))) (fun acc n hI => hd acc n (by rw [List.length_cons, show i + (ts.length + 1) = i + 1 + ts.length by omega]; exact hI))
    exact hs 0 t acc n rfl h (fun y n3 => acc.length < sizeLine ∧ lcW g tt te ρ Q ts (acc ++ [y]) n3) (fun n2 => lcW g tt te ρ Q ts acc n2) (fun y n q => ⟨by omega, rest _ n (by rw [List.length_append]; exact Nat.le_refl _) q⟩) (fun n q => rest _ n (Nat.le_succ _) q)
/-- a comprehension whose element is told -/
theorem lc_map {g : RG} {tt : RT} {te : RE} {ρ : List Sl} {Q : VQ} {n : Nat} (keep : Tr → Bool) (f : Tr → Tr) {ts : List Tr} (hl : ts.length ≤ sizeLine) (h : ∀ t ∈ ts, ∀ (K1 : VQ) (K2 : Nat → Prop), (keep t = true → K1 (f t) n) → (keep t = false → K2 n) → g t n ρ fun n1 ρ1 => tt n1 ρ1 fun b n2 => if b = true then te n2 ρ1 K1 else K2 n2) (q : Q (.lst ((ts.filter keep).map f)) n) : lcW g tt te ρ Q ts [] n := by
  refine lc_ind (fun i acc m => m = n ∧ acc = ((ts.take i).filter keep).map f) 0 (by simpa using hl) ⟨rfl, rfl⟩ (fun j t acc m e hI K1 K2 h1 h2 => ?_) (fun acc m hI => ?_)
  · obtain ⟨rfl, rfl⟩ := hI
    rw [Nat.zero_add] at h1 h2
    have tk : ts.take (j + 1) = ts.take j ++ [t] := by rw [List.take_add_one, e]; rfl
    refine h t (List.mem_of_getElem? e) K1 K2 (fun hk => h1 _ _ ⟨rfl, ?_⟩) (fun hk => h2 _ ⟨rfl, ?_⟩)
    · rw [tk, List.filter_append, List.map_append, List.filter_cons, if_pos hk]
      rfl
    · rw [tk, List.filter_append, List.map_append, List.filter_cons, if_neg (by rw [hk]; exact Bool.false_ne_true)]
      simp
  · obtain ⟨rfl, rfl⟩ := hI
    rw [Nat.zero_add, List.take_length]
    exact q
theorem lc_all {g : RG} {te : RE} {ρ : List Sl} {Q : VQ} {n : Nat} (f : Tr → Tr) {ts : List Tr} (hl : ts.length ≤ sizeLine) (h : ∀ t ∈ ts, ∀ K1 : VQ, K1 (f t) n → g t n ρ fun n1 ρ1 => te n1 ρ1 K1) (q : Q (.lst (ts.map f)) n) : lcW g vYes te ρ Q ts [] n := by
  refine lc_map (fun _ => true) f hl (fun t ht K1 K2 h1 _ => h t ht K1 (h1 rfl)) ?_
  rw [List.filter_eq_self.mpr (fun _ _ => rfl)]
  exact q
end VL
/-! more statements at trees: reversed slices, parallel assignment of owned lists, loops by what is left -/
namespace VL
open PySem L2 DS PyProof.Rows
section
variable {X : Cx} {Γ : Cn} {e : Expr} {te : RE} {pos : Pos} {i j : Nat} {st : Stmt}
def revQ : Tr → Nat → VQ → Prop
  | .lst ts, n, Q => Q (.lst ts.reverse) n
  | _, _, _ => False
/-- xs[::-1] -/
def vRev (e : RE) : RE := fun n ρ Q => e n ρ fun t n1 => revQ t n1 Q
theorem ve_rev {k : Nat} {p1 p2 p3 : Pos} (he : PE X e (lE Γ te)) : PE X (.Subscript e (.Slice none none (some (.UnaryOp .USub (.Constant (.int 1) k p1) p2)) p3) pos) (lE Γ (vRev te)) :=
  PE.imp (pe_revL he) fun σ H Q' ⟨ρ, n, F, Q, rel, h, kk⟩ => ⟨ρ, n, F, _, rel, h, fun v t n1 F1 H1 f1 s1 r1 q1 => by
    cases r1 with
    | lst e r =>
      refine ⟨_, _, rfl, .inl (.inl (s1.at_ e)), fun p hp => ?_⟩
      rename_i vs ts
      obtain ⟨f2, s2⟩ := alloc (o := .lst vs.reverse) s1 hp
      exact (kk.go f1) _ _ n1 _ _ f2 s2 (.lst updF_same (r.reverse.mono f2.le)) q1
    | _ => exact q1.elim⟩
/-- a slot gets an owned object that is there -/
theorem Rel.setP {n : Nat} {ρ : List Sl} {F : FH} {σ : L2.St} {H : Hp} (r : Rel Γ n ρ F σ H) {s1 : Sl} {p : Addr} (h1 : RelSl Γ.g Γ.H0 F H s1 (some (.ref p))) (away : ∀ (j : Nat) s, ρ[j]? = some s → isOwn s = true → σ[j]? ≠ some (some (.ref p))) : Rel Γ n (ρ.set i s1) F (σ.set i (some (.ref p))) H := by
  have new : ∀ s, (ρ.set i s1)[i]? = some s → s = s1 ∧ (σ.set i (some (V.ref p)))[i]? = some (some (.ref p)) := fun s e => by
    rw [List.getElem?_set, if_pos rfl] at e
    split at e
    · rename_i hl
      cases e
      exact ⟨rfl, by rw [List.getElem?_set, if_pos rfl, if_pos (by rw [← r.len]; exact hl)]⟩
    · cases e
  have old : ∀ (j : Nat), j ≠ i → (ρ.set i s1)[j]? = ρ[j]? ∧ (σ.set i (some (V.ref p)))[j]? = σ[j]? := fun j q => ⟨List.getElem?_set_ne (Ne.symm q), List.getElem?_set_ne (Ne.symm q)⟩
  refine ⟨r.ok, r.fr, r.sub, by simp [r.len], fun j s ej => ?_, fun j k b s w ne ej ek oj ok sj sk => ?_⟩
  · by_cases q : j = i
    · subst q
      obtain ⟨rfl, g⟩ := new s ej
      exact ⟨_, g, h1⟩
    · obtain ⟨g1, g2⟩ := old j q
      rw [g1] at ej; rw [g2]
      exact r.sl j s ej
  · by_cases q : j = i
    · subst q
      have q2 : k ≠ j := Ne.symm ne
      obtain ⟨g1, g2⟩ := old k q2
      rw [(new s ej).2] at sj; cases sj
      rw [g1] at ek; rw [g2] at sk
      exact away k w ek ok sk
    · obtain ⟨g1, g2⟩ := old j q
      rw [g1] at ej; rw [g2] at sj
      by_cases q2 : k = i
      · subst q2
        rw [(new w ek).2] at sk; cases sk
        exact away j s ej oj sj
      · obtain ⟨g3, g4⟩ := old k q2
        rw [g3] at ek; rw [g4] at sk
        exact r.dis j k b s w ne ej ek oj ok sj sk
/-- x, y = [..], e: x is a list that will be changed -/
def vParO (i j : Nat) (l : RA) (e : RE) : RS := fun D n ρ => l n ρ fun ts n1 => ts.length ≤ sizeLine ∧ e n1 ρ fun t n2 => D.nx n2 ((ρ.set i (.ol ts)).set j (.v t))
theorem vs_parO {tl : RA} (h : PS X st (tPar i j (tCons (tLst (lA Γ tl)) (tCons (lE Γ te) tNil)))) : PS X st (lS Γ (vParO i j tl te)) :=
  PS.imp h fun D' σ H ⟨ρ, n, F, D, rel, h, ok⟩ => ⟨ρ, n, F, _, rel, h, fun vs ts n1 F1 H1 f1 s1 r1 q1 => by
    refine ⟨by rw [r1.length]; exact q1.1, fun p hp => ?_⟩
    have rel1 := rel.go f1 s1
    obtain ⟨f2, s2⟩ := alloc0 (o := .lst vs) s1 hp
    have fp := s1.free hp
    have h0 : nt Γ.H0 p = none := by
      cases q : nt Γ.H0 p with
      | none => rfl
      | some w => exact absurd (nt_none hp) (rel1.fr.there p (by rw [q]; intro z; cases z))
    have rel2 := rel1.go f2 s2
    refine ⟨ρ, n1, F1, _, rel2, q1.2, fun v t n3 F3 H3 f3 s3 r3 q3 => ?_⟩
    have e3 := f3.keep p _ upd_same (by rw [fp]; intro z; cases z) (fun ps z => nomatch z)
    have n3' := f3.none fp (upd_same (o := HO.lst vs))
    refine ⟨_, _, rfl, ok.nx _ n3 F3 _ H3 ((f1.le.trans f2.le).trans f3.le) ?_ q3⟩
    exact ((rel2.go f3 s3).setP (s1 := .ol ts) ⟨p, vs, rfl, e3, n3', h0, (r1.mono f2.le).mono f3.le⟩ (own_some rel1 hp)).set r3⟩
end
theorem rngT_get {lo : Int} {k j : Nat} {t : Tr} (h : (rngT lo k)[j]? = some t) : t = .int (lo + j) ∧ j < k := by
  unfold rngT at h
  rw [List.getElem?_map] at h
  by_cases q : j < k
  · rw [List.getElem?_range q] at h
    exact ⟨(Option.some.inj h).symm, q⟩
  · rw [List.getElem?_eq_none (by rw [List.length_range]; omega)] at h
    cases h
theorem rngT_len {lo : Int} {k : Nat} : (rngT lo k).length = k := by simp [rngT]
theorem lt200 {x : Int} (h : x < 1000000000000000000000000000000000000000000000000) : x < 2 ^ 200 := Int.lt_trans h (by decide)
theorem B.lt200 {x : Int} (h : DS.B 200 x) : x < 2 ^ 200 := by
  have h : x.natAbs < 2 ^ 200 := h
  have : ((x.natAbs : Nat) : Int) < ((2 ^ 200 : Nat) : Int) := by exact_mod_cast h
  have e : ((2 ^ 200 : Nat) : Int) = 2 ^ 200 := by decide
  omega
theorem ite_tt {α : Type} (a b : α) : (if true = true then a else b) = a := rfl
theorem ite_ft {α : Type} (a b : α) : (if false = true then a else b) = b := rfl
/-! ### loops by what is left -/
theorem for_rem {α : Type} {g : RG} {tb : RS} {D : VEnds} (f : α → Tr) (I : List α → Nat → List Sl → Prop) (hs : ∀ x l n ρ, I (x :: l) n ρ → ∀ K : Nat → List Sl → Prop, (∀ n ρ, I l n ρ → K n ρ) → g (f x) n ρ fun n1 ρ1 => tb { D with nx := K, ct := K, bk := D.nx } n1 ρ1) (hd : ∀ n ρ, I [] n ρ → D.nx n ρ) : ∀ {l : List α} {n : Nat} {ρ : List Sl}, I l n ρ → forW g tb D (l.map f) n ρ
  | [], n, ρ, h => hd n ρ h
  | x :: l, n, ρ, h => hs x l n ρ h (forW g tb D (l.map f)) fun n ρ h1 => for_rem f I hs hd h1
end VL
/-! exceptions at trees -/
namespace VL
open PySem L2 DS PyProof.Rows
theorem Fr.ofSame {F : FH} {H H' : Hp} (sm : Same H H') : Fr F H F H' := ⟨le.refl _, fun _ h => .inl h, fun a o h _ _ => sm a o h, fun a h => by
  cases e : nt H a with
  | none => exact absurd e h
  | some o =>
    obtain ⟨q1, q2⟩ := nt_get e
    rw [nt_some (sm a o q1) q2]; intro z; cases z⟩
theorem Sub.ofSame {g : Gb} {n : Nat} {F : FH} {H H' : Hp} (s : Sub g n F H) (sm : Same H H') : Sub g n F H' := ⟨fun a o h => sm a o (s.ob a o h), fun a h => by
  obtain ⟨c, ns, k, l, h1, h2, h3⟩ := (s.pen a h).ex
  exact ⟨c, ns, k, l, sm _ _ h1, h2, h3⟩, s.tab.ext sm, s.nt⟩
section
variable {X : Cx} {Γ : Cn} {st : Stmt} {te : RE} {C : Addr} {f : Str}
/-- raise C(e), C an own exception that keeps e under f -/
def vRaise1 (C : Addr) (f : Str) (x : XQ) (e : RE) : RS := fun _ n ρ => e n ρ fun t n1 => x C [(f, t)] n1
theorem vs_raise1 (h : PS X st (fun _ σ H => tMkO C (spX1 C f) [] (tCons (lE Γ te) tNil) σ H fun cls d H' => Γ.E cls d H')) : PS X st (lS Γ (vRaise1 C f Γ.x te)) :=
  PS.imp h fun D' σ H ⟨ρ, n, F, D, rel, h, ok⟩ => ⟨ρ, n, F, _, rel, h, fun v t n1 F1 H1 f1 s1 r1 q1 => by
    have bad : Bad C f v (fun cls d H' => Γ.E cls d H') H1 := fun d H' sm e => rel.ok.out C (some d) [(f, v)] [(f, t)] n1 F1 H' ((rel.fr.trans f1).trans (Fr.ofSame sm)) (s1.ofSame sm) ⟨e, List.cons_ne_nil _ _⟩ (.cons r1 .nil) q1
    have key := w_mkX1 (te := tC v) (σ := σ) (H := H1) (fun R r => r) bad
    exact key⟩
end
/-! ### a lambda handed to a def that tells what it raises -/
theorem Fr.ext {F : FH} {H H1 : Hp} (e : LamX.ExtN H H1) : Fr F H F H1 := ⟨le.refl _, fun _ h => .inl h, fun a o h _ no => e a o h no, fun a h => by
  cases q : nt H a with
  | none => exact absurd q h
  | some o =>
    obtain ⟨q1, q2⟩ := nt_get q
    rw [nt_some (e a o q1 q2) q2]; intro z; cases z⟩
theorem Sub.ext {g : Gb} {n : Nat} {F : FH} {H H1 : Hp} (s : Sub g n F H) (e : LamX.ExtN H H1) (T1 : LamX.Tabs g.TT H1) : Sub g n F H1 := ⟨fun a o h => e a o (s.ob a o h) (fun ps z => by
  subst z
  exact s.nt a ps (hp_eq.mp h)), fun a h => by
  obtain ⟨c, ns, k, l, h1, h2, h3⟩ := (s.pen a h).ex
  exact ⟨c, ns, k, l, e _ _ h1 (fun _ z => nomatch z), h2, h3⟩, T1, s.nt⟩
def hideS : Sl → Sl
  | .v t => .v t
  | _ => .un
def hide (ρ : List Sl) : List Sl := ρ.map hideS
/-- the slots as a lambda sees them -/
theorem Rel.hide {Γ Δ : Cn} {n : Nat} {ρ : List Sl} {F : FH} {σ : L2.St} {H : Hp} (r : Rel Γ n ρ F σ H) (eg : Δ.g = Γ.g) (ok : Δ.Ok) (fr : Fr Δ.F0 Δ.H0 F H) : Rel Δ n (VL.hide ρ) F σ H := by
  have un : ∀ (i : Nat) s, (VL.hide ρ)[i]? = some s → ∃ u, ρ[i]? = some u ∧ s = hideS u := fun i s e => by
    unfold VL.hide at e
    rw [List.getElem?_map] at e
    cases q : ρ[i]? with
    | none => rw [q] at e; cases e
    | some u => rw [q] at e; cases e; exact ⟨u, rfl, rfl⟩
  have no : ∀ u, isOwn (hideS u) = false := fun u => by cases u <;> rfl
  refine ⟨ok, fr, by rw [eg]; exact r.sub, by unfold VL.hide; rw [List.length_map]; exact r.len, fun i s e => ?_, fun i j a s u ne ei ej oi _ _ _ => ?_⟩
  · obtain ⟨u, h1, rfl⟩ := un i s e
    obtain ⟨x, h2, h3⟩ := r.sl i u h1
    refine ⟨x, h2, ?_⟩
    cases u with
    | v t => rw [eg]; exact h3
    | _ => trivial
  · obtain ⟨w, _, rfl⟩ := un i s ei
    rw [no w] at oi
    cases oi
theorem PE.ex {X : Cx} {e : Expr} {α : Type} {t : α → TE} (h : ∀ a, PE X e (t a)) : PE X e (fun σ H Q => ∃ a, t a σ H Q) := ⟨fun pins s σ H Q I ⟨a, q⟩ => (h a).run pins s σ H Q I q⟩
/-- a lambda's body, its context left open -/
def tlam (g : Gb) (te : XQ → RE) (E : XK) : TE := fun σ H Q => ∃ p : FH × Hp × XQ, lE ⟨g, p.1, p.2.1, E, p.2.2⟩ (te p.2.2) σ H Q
/-- told = (); try: call() / except C as e: told = (tag, e.fld) / return told -/
def TTa (C : Addr) (fld tag : Str) : (XK → Hp → VK → Prop) → Hp → VK → Prop := fun tl H Q => ∀ p0, H p0 = none →
  tl (fun cls d H' => ∃ dd v, cls = .ref C ∧ d = some dd ∧ H' dd = some (.xd [(fld, v)]) ∧ ∀ p, H' p = none → Q (.ref p) (upd H' p (.tup [.str tag, v]))) (upd H p0 (.tup [])) fun _ H' => Q (.ref p0) H'
def toldQ (fld tag : Str) (Q : VQ) : List (Str × Tr) → Nat → Prop
  | [(f, t)], n => f = fld ∧ Q (.tup [.str tag, t]) n
  | _, _ => False
def vToldA (C : Addr) (fld tag : Str) (te : XQ → RE) : RE := fun n ρ Q => te (fun C' fs n1 => C' = C ∧ toldQ fld tag Q fs n1) n (hide ρ) fun _ n1 => Q (.tup []) n1
theorem ve_toldA {X : Cx} {Γ : Cn} {e : Expr} {C : Addr} {fld tag : Str} {te : XQ → RE} (h : PE X e (LamX.tLam Γ.g.TT (TTa C fld tag) (tlam Γ.g te))) : PE X e (lE Γ (vToldA C fld tag te)) :=
  PE.imp h fun σ H Q' ⟨ρ, n, F, Q, rel, h, k⟩ => ⟨rel.sub.tab, fun H1 eN T1 p0 n0 => by
    have f1 : Fr F H F H1 := Fr.ext eN
    have s1 := rel.sub.ext eN T1
    have rel1 := rel.go f1 s1
    obtain ⟨f2, s2⟩ := alloc (o := .tup []) s1 n0
    have rel2 := rel1.go f2 s2
    have k2 := (k.go f1).go f2
    refine ⟨⟨updF F p0 (.ob (.tup [])), upd H1 p0 (.tup []), fun C' fs n1 => C' = C ∧ toldQ fld tag Q fs n1⟩, VL.hide ρ, n, _, fun _ n1 => Q (.tup []) n1, rel2.hide rfl ⟨fun C' d fvs fts n' F' H' f' s' xa rf hx => ?_⟩ (Fr.refl _ _), h, fun v t n' F' H' f' s' r' q' => ?_⟩
    · obtain ⟨rfl, hx⟩ := hx
      match fts, hx, rf with
      | [(f, t)], ⟨e1, q⟩, rf =>
        subst e1
        cases rf with
        | cons r rs =>
          cases rs with
          | nil =>
            rename_i v
            cases d with
            | none => cases (show [(f, v)] = [] from xa)
            | some dd =>
              refine ⟨dd, v, rfl, rfl, xa.1, fun p np => ?_⟩
              obtain ⟨f3, s3⟩ := alloc (o := .tup [.str tag, v]) s' np
              exact k2 _ _ n' _ _ (f'.trans f3) s3 (.tup (.inl (.inl (hp_eq.mpr updF_same))) (.cons (.str tag) (.cons (r.mono f3.le) .nil))) q
    · exact k2 _ _ n' F' H' f' s' (.tup (.inl (.inl (hp_eq.mpr (f'.le _ _ updF_same)))) .nil) q'⟩
/-! ### the end of a law with lambdas -/
def spLawT (K : PySem.W.Frag) (TT : List (Addr × Str)) : Sp := fun vs H Q _ => ∃ (a : Addr) (ns : List Int), vs = [.ref a] ∧ SqL K H a (ns.map V.int) ∧ ns.length ≤ 63 ∧ (∀ p ∈ TT, H p.1 = some (.tbl #[])) ∧ ∀ H', Q (.bl true) H'
theorem law_keyT {TT : List (Addr × Str)} {K : PySem.W.Frag} {pk : Str × Str × Str} {pz : Bool} : ∀ vs H Q E, spLawT K TT vs H Q E → lSp ⟨K, TT, pk, pz⟩ 1 vlaw vs H Q (fun _ _ _ => False) := fun vs H Q E ⟨a, ns, e, sq, hl, ht, q⟩ => by
  subst e
  have fin : ∀ F0 : FH, Sub ⟨K, TT, pk, pz⟩ 0 F0 H → SqL K (hp F0) a (ns.map V.int) → lSp ⟨K, TT, pk, pz⟩ 1 vlaw [.ref a] H Q (fun _ _ _ => False) := fun F0 s sq =>
    ⟨0, F0, [.scr ns], fun t _ => t = .bl true, fun _ _ _ => False, rfl, s, .cons (.scr sq) .nil, ⟨hl, rfl, fun _ => rfl⟩, fun v t n' F' H' f' s' r' q' => by
      subst q'
      cases r'
      exact q H', fun _ _ _ _ _ _ _ _ _ _ _ z => z⟩
  have one : ∀ o, H a = some o → (∀ ps, o ≠ .tbl ps) → Sub ⟨K, TT, pk, pz⟩ 0 (updF (fun _ => none) a (.ob o)) H := fun o e no => by
    refine ⟨fun b u h => ?_, fun b h => ?_, (fun p hp => LamX.TabS.nil (ht p hp)), fun b ps h => ?_⟩
    · have h := hp_eq.mp h
      by_cases z : b = a
      · subst z; rw [updF_same] at h; cases h; exact e
      · rw [updF_ne z] at h; cases h
    · by_cases z : b = a
      · subst z; rw [updF_same] at h; cases h
      · rw [updF_ne z] at h; cases h
    · by_cases z : b = a
      · subst z; rw [updF_same] at h; cases h; exact no _ rfl
      · rw [updF_ne z] at h; cases h
  rcases sq with (sq | ⟨o, sq⟩) | sq
  · exact fin _ (one _ sq (fun _ z => nomatch z)) (.inl (.inl (hp_eq.mpr updF_same)))
  · exact fin _ (one _ sq (fun _ z => nomatch z)) (.inl (.inr ⟨o, hp_eq.mpr updF_same⟩))
  · refine fin (fun _ => none) ⟨fun b u h => ?_, fun b h => ?_, (fun p hp => LamX.TabS.nil (ht p hp)), fun b ps h => ?_⟩ (.inr sq)
    · have h := hp_eq.mp h
      cases h
    · cases h
    · cases h
theorem law_endT {TT : List (Addr × Str)} {P : Program} {w : World} {K : PySem.W.Frag} {mg : Str → Option Value} {base : Heap} {k : Nat} {f : Addr} {fd : FuncData} {ps : List Str} {pk : Str × Str × Str} {pz : Bool} (F : FnOk P w K mg base (L2.CX P w) k f fd ps (lSp ⟨K, TT, pk, pz⟩ 1 vlaw)) : FnOk P w K mg base CX0 k f fd ps (spLawT K TT) := by
  refine ⟨fun vs H Q E h => F.len _ _ _ _ (law_keyT _ _ _ _ h), fun A outer s H args us vs Q E hr e0 hb r hs => codeAny_mono (F.run A outer s H args us vs Q _ hr e0 hb r (law_keyT _ _ _ _ hs)) fun r s' h => ?_⟩
  cases r with
  | error e =>
    obtain ⟨_, _, _, _, _, _, _, _, _, _, _, _, z⟩ := h
    exact z.elim
  | ok fl => cases fl <;> exact h
end VL
/-! more at trees: x, y = e, [..]; lists unpacked; tuples of ints in order; list.index of ints; walks over lists and tuples -/
namespace VL
open PySem L2 DS PyProof.Rows
section
variable {X : Cx} {Γ : Cn} {e : Expr} {te ta tb : RE} {pos : Pos} {i j : Nat} {st : Stmt}
/-- x, y = e, [..]: y is a list that will be changed -/
def vParO2 (i j : Nat) (e : RE) (l : RA) : RS := fun D n ρ => e n ρ fun t n1 => l n1 ρ fun ts n2 => ts.length ≤ sizeLine ∧ D.nx n2 ((ρ.set i (.v t)).set j (.ol ts))
theorem vs_parO2 {tl : RA} (h : PS X st (tPar i j (tCons (lE Γ te) (tCons (tLst (lA Γ tl)) tNil)))) : PS X st (lS Γ (vParO2 i j te tl)) :=
  PS.imp h fun D' σ H ⟨ρ, n, F, D, rel, h, ok⟩ => ⟨ρ, n, F, _, rel, h, fun v t n1 F1 H1 f1 s1 r1 q1 =>
    ⟨ρ, n1, F1, _, rel.go f1 s1, q1, fun vs ts n2 F2 H2 f2 s2 r2 q2 => ⟨by rw [r2.length]; exact q2.1, fun p hp => ⟨_, _, rfl, by
      have rel2 := ((rel.go f1 s1).go f2 s2).set (i := i) (r1.mono f2.le)
      exact ok.nx _ n2 F2 _ _ (f1.le.trans f2.le) (rel2.setO (s1 := .ol ts) hp fun a b => ⟨p, vs, rfl, upd_same, a, b, r2⟩) q2.2⟩⟩⟩⟩
/-- a, b, .. = a tuple or a list of that length -/
def gSeqN (k : Nat) (gs : RGs) : RG
  | .tup ts, n, ρ, Q => ts.length = k ∧ gs ts n ρ Q
  | .lst ts, n, ρ, Q => ts.length = k ∧ gs ts n ρ Q
  | _, _, _, _ => False
theorem PG.or {tg : Expr} {t u : TG} (a : PG X tg t) (b : PG X tg u) : PG X tg (fun v σ H Q => t v σ H Q ∨ u v σ H Q) := ⟨fun pins s σ H v w Q I r q => q.elim (fun q => a.run pins s σ H v w Q I r q) fun q => b.run pins s σ H v w Q I r q⟩
theorem vg_seq {vs : List Nat} {es : List Expr} {k : Nat} {gs : RGs} {m : Nat} (hK : X.K = Γ.g.K) (hc : X.calm = true) (h : PGs X es (lGs Γ vs gs)) (hn : (assignEach es X.env).length = m := by rfl) (hst : (assignEach es X.env).findIdx? (·.1) = none := by rfl) : PG X (.Tuple es k pos) (lG Γ vs (gSeqN m gs)) :=
  PG.imp (PG.or (pg_tup hc h hn hst) (pg_lst hc h hn hst)) fun v σ H Q' ⟨ρ, n, F, t, Q, rel, r, h, k⟩ => by
    cases r with
    | tup q r => exact .inl ⟨_, _, rfl, by rw [hK]; exact sqT_sub rel.sub q, by rw [r.length]; exact h.1, ρ, n, F, _, _, rel, r, h.2, k⟩
    | lst q r => exact .inr ⟨_, _, rfl, .inl (.inl (rel.sub.at_ q)), by rw [r.length]; exact h.1, ρ, n, F, _, _, rel, r, h.2, k⟩
    | _ => exact h.elim
/-- tuples of ints in order -/
def vLtT : VR2
  | .tup ts, .tup us, n, Q => ∃ ns ms : List Int, ts = ns.map Tr.int ∧ us = ms.map Tr.int ∧ Q (.bl (HT.lexLt ns ms)) n
  | _, _, _, _ => False
theorem ov_ltT (hK : X.K = Γ.g.K) (hu : X.A.units < cLine) : OpR X (compareOp .Lt) (lR Γ vLtT) := OpR.imp (op_ltT hu) fun x y H Q' ⟨n, F, tx, ty, Q, ok, fr, s, rx, ry, q, k⟩ => by
  cases rx with
  | tup e1 r1 =>
    cases ry with
    | tup e2 r2 =>
      obtain ⟨ns, ms, rfl, rfl, q⟩ := q
      have h1 := r1.ints
      have h2 := r2.ints
      subst h1 h2
      exact ⟨_, _, ns, ms, rfl, rfl, by rw [hK]; exact sqT_sub s e1, by rw [hK]; exact sqT_sub s e2, k.here s (.bl _) q⟩
    | _ => exact q.elim
  | _ => exact q.elim
/-- a list or a tuple that a name holds is walked -/
def seqV : Sl → Nat → (List Tr → Nat → Prop) → Prop
  | .v (.lst ts), n, Q => Q ts n
  | .v (.tup ts), n, Q => Q ts n
  | _, _, _ => False
def iSeqV (i : Nat) : RA := fun n ρ Q => seqV (gt ρ i) n Q
theorem PI.or {tg iter : Expr} {w1 w2 : TI} (a : PI X tg iter w1) (b : PI X tg iter w2) : PI X tg iter (fun σ H R => w1 σ H R ∨ w2 σ H R) := ⟨fun pins s σ H R I q => q.elim (fun q => a.run pins s σ H R I q) fun q => b.run pins s σ H R I q⟩
theorem vi_seqV {tg : Expr} (hK : X.K = Γ.g.K) (he : PE X e (lE Γ (vVar i))) : PI X tg e (lI Γ (iSeqV i)) := PI.imp (PI.or (vi_list hK he) (vi_tup hK he)) fun σ H R ⟨ρ, n, F, Q, rel, h, k⟩ => by
  have h : seqV (gt ρ i) n Q := h
  cases eg : gt ρ i with
  | v t =>
    rw [eg] at h
    cases t with
    | lst ts => exact .inl ⟨ρ, n, F, Q, rel, (show vv (gt ρ i) n _ by rw [eg]; exact h), k⟩
    | tup ts => exact .inr ⟨ρ, n, F, Q, rel, (show vv (gt ρ i) n _ by rw [eg]; exact h), k⟩
    | _ => exact h.elim
  | _ => rw [eg] at h; exact h.elim
/-- xs.index(y), ints -/
def ixoQ (ts : List Tr) : Tr → Nat → VQ → Prop
  | .int y, n, Q => ∃ (ns : List Int) (j : Nat), ts = ns.map Tr.int ∧ ns[j]? = some y ∧ (∀ m, m < j → ns[m]? ≠ some y) ∧ Q (.int (j : Nat)) n
  | _, _, _ => False
def vIndex (a b : RE) : RE := fun n ρ Q => a n ρ fun t n1 => lstQ t n1 fun ts n2 => b n2 ρ fun u n3 => ixoQ ts u n3 Q
theorem flat_ints : ∀ ns : List Int, (ns.map V.int).all flatV = true
  | [] => rfl
  | _ :: ns => flat_ints ns
theorem ve_index {o : Expr} (h : PE X o (tBM X.K "list" (rIndex X.K) (lE Γ ta) (tCons (lE Γ tb) tNil))) : PE X o (lE Γ (vIndex ta tb)) :=
  PE.imp h fun σ H Q' ⟨ρ, n, F, Q, rel, h, k⟩ => ⟨ρ, n, F, _, rel, h, fun v t n1 F1 H1 f1 s1 r1 q1 => by
    cases r1 with
    | lst e r =>
      refine ⟨.inl ⟨rfl, _, .inl (.inl (s1.at_ e))⟩, ρ, n1, F1, _, rel.go f1 s1, q1, fun u tu n2 F2 H2 f2 s2 r2 q2 => ?_⟩
      cases r2 with
      | int y =>
        obtain ⟨ns, j, rfl, hj, hno, q⟩ := q2
        have hv := r.ints
        subst hv
        refine ⟨_, ns.map V.int, .int y, j, .int y, rfl, rfl, .inl (.inl (s2.at_ (f2.le _ _ e))), rfl, flat_ints ns, by rw [List.getElem?_map, hj]; rfl, by simp [eqV], fun m z hm hz => ?_, ((k.go f1).go f2).here s2 (.int _) q⟩
        rw [List.getElem?_map] at hz
        cases hw : ns[m]? with
        | none => rw [hw] at hz; cases hz
        | some w =>
          rw [hw] at hz
          cases hz
          show (w == y) = false
          have : w ≠ y := fun zz => hno m hm (by rw [hw, zz])
          simpa using this
      | _ => exact q2.elim
    | _ => exact q1.elim⟩
/-! ### a call of a name that holds a def -/
theorem PE.or {o : Expr} {t u : TE} (a : PE X o t) (b : PE X o u) : PE X o (fun σ H Q => t σ H Q ∨ u σ H Q) := ⟨fun pins s σ H Q I q => q.elim (fun q => a.run pins s σ H Q I q) fun q => b.run pins s σ H Q I q⟩
def defQ (f : Addr) : Sl → Prop
  | .v (.opq v) => v = .ref f
  | _ => False
/-- x(..), x holds the def at f or the def at f2 -/
def vCallL2 (i : Nat) (f f2 : Addr) (m : Nat) (x : XQ) (sp sp2 : VSp) (a : RA) : RE := fun n ρ Q => (defQ f (gt ρ i) ∧ a n ρ fun ts n1 => ts.length = m ∧ sp ts n1 Q x) ∨ (defQ f2 (gt ρ i) ∧ a n ρ fun ts n1 => ts.length = m ∧ sp2 ts n1 Q x)
theorem callL_in {f : Addr} {m : Nat} {sp : VSp} {tl : RA} {σ : L2.St} {H : Hp} {Q' : VK} {ρ : List Sl} {n : Nat} {F : FH} {Q : VQ} (rel : Rel Γ n ρ F σ H) (k : Then Γ.g F H Q Q') (h : defQ f (gt ρ i) ∧ tl n ρ fun ts n1 => ts.length = m ∧ sp ts n1 Q Γ.x) : tCallL i f (lSp Γ.g m sp) [] Γ.E (lA Γ tl) σ H Q' := by
  obtain ⟨hd, h⟩ := h
  cases eg : gt ρ i with
  | v t =>
    rw [eg] at hd
    cases t with
    | opq v =>
      obtain rfl : v = .ref f := hd
      have ei := gt_get eg (fun z => nomatch z)
      obtain ⟨o, h1, w, h2, h3⟩ := rel.sl i _ ei
      cases h3
      subst h2
      refine ⟨h1, ρ, n, F, _, rel, h, fun vs ts n1 F1 H1 f1 s1 r1 q1 => ?_⟩
      show lSp Γ.g m sp (vs ++ []) H1 Q' Γ.E
      rw [List.append_nil]
      exact ⟨n1, F1, ts, Q, Γ.x, q1.1, s1, r1, q1.2, k.go f1, rel.ok.thenX (rel.fr.trans f1)⟩
    | _ => exact hd.elim
  | _ => rw [eg] at hd; exact hd.elim
theorem ve_callL2 {o : Expr} {f f2 : Addr} {m : Nat} {sp sp2 : VSp} {tl : RA} (h1 : PE X o (tCallL i f (lSp Γ.g m sp) [] Γ.E (lA Γ tl))) (h2 : PE X o (tCallL i f2 (lSp Γ.g m sp2) [] Γ.E (lA Γ tl))) : PE X o (lE Γ (vCallL2 i f f2 m Γ.x sp sp2 tl)) :=
  PE.imp (PE.or h1 h2) fun σ H Q' ⟨ρ, n, F, Q, rel, h, k⟩ => h.elim (fun h => .inl (callL_in rel k h)) fun h => .inr (callL_in rel k h)
/-- xs[k], xs a list or a tuple -/
def ixS : VR2
  | .lst ts, u, n, Q => ixL (.lst ts) u n Q
  | .tup ts, u, n, Q => ixT (.tup ts) u n Q
  | _, _, _, _ => False
theorem IxR.or {r u : R2} (a : IxR X r) (b : IxR X u) : IxR X (fun x y H Q => r x y H Q ∨ u x y H Q) := fun v w pins s σ H x y p q Q I rx ry h z => h.elim (fun h => a v w pins s σ H x y p q Q I rx ry h z) fun h => b v w pins s σ H x y p q Q I rx ry h z
theorem iv_seq (hK : X.K = Γ.g.K) : IxR X (lR Γ ixS) := IxR.imp (IxR.or iv_list (iv_tup hK)) fun x y H Q' ⟨n, F, tx, ty, Q, ok, fr, s, rx, ry, q, k⟩ => by
  cases rx with
  | lst e r => exact .inl ⟨n, F, _, ty, Q, ok, fr, s, .lst e r, ry, q, k⟩
  | tup e r => exact .inr ⟨n, F, _, ty, Q, ok, fr, s, .tup e r, ry, q, k⟩
  | _ => exact q.elim
end
end VL
/-! walks by a relation of trees and plain values -/
namespace VL
open PySem L2 DS
inductive RL {α : Type} (R : Tr → α → Prop) : List Tr → List α → Prop
  | nil : RL R [] []
  | cons {t : Tr} {x : α} {ts : List Tr} {l : List α} (h : R t x) (r : RL R ts l) : RL R (t :: ts) (x :: l)
theorem RL.length {α : Type} {R : Tr → α → Prop} : ∀ {ts : List Tr} {l : List α}, RL R ts l → ts.length = l.length
  | _, _, .nil => rfl
  | _, _, .cons _ r => congrArg (· + 1) r.length
theorem RL.map {α : Type} {R : Tr → α → Prop} {f : α → Tr} (h : ∀ x, R (f x) x) : ∀ l : List α, RL R (l.map f) l
  | [] => .nil
  | x :: l => .cons (h x) (RL.map h l)
theorem RL.map2 {α β : Type} {R : Tr → α → Prop} {f : β → Tr} {g : β → α} (h : ∀ x, R (f x) (g x)) : ∀ l : List β, RL R (l.map f) (l.map g)
  | [] => .nil
  | x :: l => .cons (h x) (RL.map2 h l)
theorem for_rel {α : Type} {g : RG} {tb : RS} {D : VEnds} (R : Tr → α → Prop) (I : List α → Nat → List Sl → Prop) (hs : ∀ t x l n ρ, R t x → I (x :: l) n ρ → ∀ K : Nat → List Sl → Prop, (∀ n ρ, I l n ρ → K n ρ) → g t n ρ fun n1 ρ1 => tb { D with nx := K, ct := K, bk := D.nx } n1 ρ1) (hd : ∀ n ρ, I [] n ρ → D.nx n ρ) : ∀ {ts : List Tr} {l : List α} {n : Nat} {ρ : List Sl}, RL R ts l → I l n ρ → forW g tb D ts n ρ
  | _, _, n, ρ, .nil, h => hd n ρ h
  | _, _, n, ρ, .cons (t := t) (x := x) (ts := ts) (l := l) q r, h => hs t x l n ρ q h (forW g tb D ts) fun n ρ h1 => for_rel R I hs hd r h1
theorem for_pred {g : RG} {tb : RS} {D : VEnds} (P : List Tr → Nat → List Sl → Prop) (hs : ∀ t ts n ρ, P (t :: ts) n ρ → ∀ K : Nat → List Sl → Prop, (∀ n ρ, P ts n ρ → K n ρ) → g t n ρ fun n1 ρ1 => tb { D with nx := K, ct := K, bk := D.nx } n1 ρ1) (hd : ∀ n ρ, P [] n ρ → D.nx n ρ) : ∀ {ts : List Tr} {n : Nat} {ρ : List Sl}, P ts n ρ → forW g tb D ts n ρ
  | [], n, ρ, h => hd n ρ h
  | t :: ts, n, ρ, h => hs t ts n ρ h (forW g tb D ts) fun n ρ h1 => for_pred P hs hd h1
theorem lc_rel0 {α : Type} {g : RG} {te : RE} {ρ : List Sl} {Q : VQ} {n : Nat} (R : Tr → α → Prop) (f : α → Tr) : ∀ {ts : List Tr} {l : List α} {acc : List Tr}, RL R ts l → acc.length + ts.length ≤ sizeLine → (∀ t x, x ∈ l → R t x → ∀ K1 : VQ, K1 (f x) n → g t n ρ fun n1 ρ1 => te n1 ρ1 K1) → Q (.lst (acc ++ l.map f)) n → lcW g vYes te ρ Q ts acc n
  | _, _, acc, .nil, hl, h, q => by
    rw [List.map_nil, List.append_nil] at q
    exact q
  | _, _, acc, .cons (t := t) (x := x) (ts := ts) (l := l) a r, hl, h, q => by
    unfold lcW
    refine h t x (List.mem_cons_self ..) a _ ?_
    rw [List.length_cons] at hl
    refine ⟨by omega, ?_⟩
    refine lc_rel0 R f r ?_ (fun t x m => h t x (List.mem_cons_of_mem _ m)) ?_
    · rw [List.length_append, List.length_singleton]; omega
    · rw [List.append_assoc]; exact q
theorem lc_rel {α : Type} {g : RG} {te : RE} {ρ : List Sl} {Q : VQ} {n : Nat} (R : Tr → α → Prop) (f : α → Tr) {ts : List Tr} {l : List α} (r : RL R ts l) (hl : ts.length ≤ sizeLine) (h : ∀ t x, x ∈ l → R t x → ∀ K1 : VQ, K1 (f x) n → g t n ρ fun n1 ρ1 => te n1 ρ1 K1) (q : Q (.lst (l.map f)) n) : lcW g vYes te ρ Q ts [] n :=
  lc_rel0 R f r (by rw [List.length_nil, Nat.zero_add]; exact hl) h q
end VL
/-! a lambda handed to a def that tells what it raises: tuples of tags and fields -/
namespace VL
open PySem L2 DS PyProof.Rows
/-- an item of what is told: a text, or a field of the exception -/
inductive AI where
  | s (x : Str) | f (x : Str)
inductive Its {α : Type} (str : Str → α) (fs : List (Str × α)) : List AI → List α → Prop
  | nil : Its str fs [] []
  | s {x : Str} {its : List AI} {ts : List α} (r : Its str fs its ts) : Its str fs (.s x :: its) (str x :: ts)
  | f {x : Str} {t : α} {its : List AI} {ts : List α} (h : fs.lookup x = some t) (r : Its str fs its ts) : Its str fs (.f x :: its) (t :: ts)
theorem Its.rep {g : Gb} {F : FH} {fvs : List (Str × V)} {fts : List (Str × Tr)} (rf : RepF g F fvs fts) : ∀ {its : List AI} {ts : List Tr}, Its Tr.str fts its ts → ∃ vs, Its V.str fvs its vs ∧ Reps g F vs ts
  | _, _, .nil => ⟨[], .nil, .nil⟩
  | _, _, .s (x := x) r => by
    obtain ⟨vs, h1, h2⟩ := Its.rep rf r
    exact ⟨_, .s h1, .cons (.str x) h2⟩
  | _, _, .f h r => by
    obtain ⟨vs, h1, h2⟩ := Its.rep rf r
    obtain ⟨v, l, q⟩ := rf.lookup h
    exact ⟨_, .f l h1, .cons q h2⟩
/-- the def calls the lambda; for an exception of a class of al it answers a tuple, otherwise () -/
def TTm (al : List (Addr × List AI)) : (XK → Hp → VK → Prop) → Hp → VK → Prop := fun tl H Q => ∀ p0, H p0 = none →
  tl (fun cls d H' => ∃ C its fvs vs, (C, its) ∈ al ∧ cls = .ref C ∧ XAt H' d fvs ∧ Its V.str fvs its vs ∧ ∀ p, H' p = none → Q (.ref p) (upd H' p (.tup vs))) (upd H p0 (.tup [])) fun _ H' => Q (.ref p0) H'
abbrev LRE := XK → FH → Hp → XQ → RE
/-- a lambda's body, its context left open -/
def tlamE (g : Gb) (te : LRE) (E : XK) : TE := fun σ H Q => ∃ p : FH × Hp × XQ, lE ⟨g, p.1, p.2.1, E, p.2.2⟩ (te E p.1 p.2.1 p.2.2) σ H Q
def vToldM (al : List (Addr × List AI)) (te : LRE) : RE := fun n ρ Q => ∀ E F0 H0, te E F0 H0 (fun C fs n1 => ∃ its ts, (C, its) ∈ al ∧ Its Tr.str fs its ts ∧ ts.length ≤ sizeLine ∧ Q (.tup ts) n1) n (hide ρ) fun _ n1 => Q (.tup []) n1
theorem ve_toldM {X : Cx} {Γ : Cn} {e : Expr} {al : List (Addr × List AI)} {te : LRE} (h : PE X e (LamX.tLam Γ.g.TT (TTm al) (tlamE Γ.g te))) : PE X e (lE Γ (vToldM al te)) :=
  PE.imp h fun σ H Q' ⟨ρ, n, F, Q, rel, h, k⟩ => ⟨rel.sub.tab, fun H1 eN T1 p0 n0 => by
    have f1 : Fr F H F H1 := Fr.ext eN
    have s1 := rel.sub.ext eN T1
    have rel1 := rel.go f1 s1
    obtain ⟨f2, s2⟩ := alloc (o := .tup []) s1 n0
    have rel2 := rel1.go f2 s2
    have k2 := (k.go f1).go f2
    refine ⟨⟨updF F p0 (.ob (.tup [])), upd H1 p0 (.tup []), fun C fs n1 => ∃ its ts, (C, its) ∈ al ∧ Its Tr.str fs its ts ∧ ts.length ≤ sizeLine ∧ Q (.tup ts) n1⟩, VL.hide ρ, n, _, fun _ n1 => Q (.tup []) n1, rel2.hide rfl ⟨fun C' d fvs fts n' F' H' f' s' xa rf hx => ?_⟩ (Fr.refl _ _), h _ _ _, fun v t n' F' H' f' s' r' q' => ?_⟩
    · obtain ⟨its, ts, m, it, _, q⟩ := hx
      obtain ⟨vs, h1, h2⟩ := it.rep rf
      refine ⟨C', its, fvs, vs, m, rfl, xa, h1, fun p np => ?_⟩
      obtain ⟨f3, s3⟩ := alloc (o := .tup vs) s' np
      exact k2 _ _ n' _ _ (f'.trans f3) s3 (.tup (.inl (.inl (hp_eq.mpr updF_same))) (h2.mono f3.le)) q
    · exact k2 _ _ n' F' H' f' s' (.tup (.inl (.inl (hp_eq.mpr (f'.le _ _ updF_same)))) .nil) q'⟩
/-! ### the call -/
theorem pe_told {X : Cx} {TT : (XK → Hp → VK → Prop) → Hp → VK → Prop} {g : Gb} {te : LRE} {x a : Str} {st : Stmt} {f c P : Addr} {fd : FuncData} {Ng : List Str} {k : Nat} {params : Arguments} {body : Expr} {scope : Scope} {p lpos pos : Pos}
    (F : Fun X.K x x st f fd) (hg : Gl X x) (hm : X.mg x = some (.ref f)) (hb : Binds X.K fd [a] []) (Sg : FnScope Ng [a] (defScope st)) (hNg : Ng[0]? = some a) (hva : Vis (defScope st) a)
    (hG : ∀ cdv, LamX.GivesTo X Ng x (defScope st) f cdv (defBody st) a (X.env.qual ++ "<lambda>") TT) (TB : LamX.TabB X.base X.mg c P) (hcode : X.env.code = .ref c) (hmT : (P, X.env.qual ++ "<lambda>") ∈ g.TT) (hu : ∀ p ∈ g.TT, p.1 = P → p.2 = X.env.qual ++ "<lambda>")
    (hr : Room (k + 2) X.A) (L : LamX.LamS X.env.scope scope) (hdef : defaultsOf params X.env = ([], []))
    (hbind : ∀ (q : Str) (cl : List (Str × Addr)) (pm cv ctv : Value), bindArgs (PySem.W.kla_fn "<lambda>" q params body scope cl pm cv ctv) ⟨[], []⟩ = pure [])
    (hbody : ∀ (A : Around) (outer : List Env) (s : Shared) (H : Hp) (E : XK) (f c' : Addr), Room k (A.deeper (LamX.lamEnv X scope s.heap.objs.size f c')) → ∀ (F0 : FH) (H0 : Hp) (xq : XQ), PE (LamX.lamCx X A outer s H E scope f c') body (lE ⟨g, F0, H0, E, xq⟩ (te E F0 H0 xq)))
    (hdb : (x == ("__debug__" : Str)) = false := by decide) (hd : (a == ("__debug__" : Str)) = false := by decide) (hcd : (a == ("__classdict__" : Str)) = false := by decide) :
    PE X (.Call (.Name x p) [.Lambda params body scope lpos] [] pos) (LamX.tLam g.TT TT (tlamE g te)) := by
  obtain ⟨oc, od, kV, doc, pm, an, cdv, ct, osl, e, lk, hcg⟩ := F.ex
  subst e
  exact LamX.pe_lamcall hg hm F.kp lk hcg hb Sg hNg hva (hG cdv) TB hcode hmT hu hr L hdef hbind (fun A outer s H E f c' hr => PE.ex fun p => hbody A outer s H E f c' hr p.1 p.2.1 p.2.2) hdb hd hcd
theorem hx_lam {CX : CXT} {P : Program} {w : World} {K : PySem.W.Frag} {mg : Str → Option Value} {base : Heap} {N : List Str} {q : Str} {sc : Scope} {f0 : Addr} {cd : Value} {A0 : Around} {o0 : List Env} {s0 : Shared} {H0 : Hp} {E0 : XK} {A : Around} {outer : List Env} {s : Shared} {H : Hp} {E : XK} {scope : Scope} {f c' : Addr} :
    Passes (L2.CX P w) (LamX.lamCx (cxOf CX P w K mg base N q sc f0 cd A0 o0 s0 H0 E0) A outer s H E scope f c') E := passes_call (takes_of rfl rfl rfl rfl) (fun _ _ _ _ h => h)
/-- what a clause wishes may lean on the number of slots -/
theorem takes_len {X : Cx} {W : WX} (tk : Takes X W) : Takes X (fun cls d σ H => σ.length = X.N.length → W cls d σ H) := fun u s x => by
  obtain ⟨a, B, sI, pins', σ', H', cls, d, e, J, h1, h2, h3, h4, h5, h6, h7⟩ := x
  exact tk u s ⟨a, B, sI, pins', σ', H', cls, d, e, J, h1, h2, h3, h4, h5, h6, h7 J.len⟩
/-! ### a def that makes lambdas, by its body -/
section
variable {P : Program} {w : World} {K : PySem.W.Frag} {mg : Str → Option Value} {base : Heap} {f c : Addr} {name qual : Str} {params : Arguments} {body : List Stmt} {scope : Scope} {dV kV doc pm ct oc : Value} {an od : Option Addr} {osl : Array (Option Value)} {N ps : List Str} {k m : Nat}
theorem ok_vC {g : Gb} {sp : VSp} {fd : FuncData} (e : fd = PySem.W.fnOf name qual params body scope dV kV doc pm an (.ref c) ct) (lk : K.lookup f = some ⟨oc, od, .func (PySem.W.fnOf name qual params body scope dV kV doc pm an (.ref c) ct), osl⟩) (hcd : PySem.W.codeIn K (.ref c) qual = true) (S : FnScope N ps scope) (hm : ps.length = m)
    (hb : ∀ (A : Around) (outer : List Env) (s : Shared) (H : Hp) (E : XK) (F0 : FH) (x : XQ), Room k (A.deeper (envOfC qual scope s.heap.objs.size f (.ref c))) →
      ∃ τ, PSs (cxOf (L2.CX P w) P w K mg base N qual scope f (.ref c) A outer s H E) body (lS ⟨g, F0, H, E, x⟩ τ) ∧ ∀ ts n Q, ts.length = m → sp ts n Q x → τ (ends Q) n (startT N ts)) : FnOk P w K mg base (L2.CX P w) (k + 1) f fd ps (lSp g m sp) := by
  subst e
  refine fn_of lk hcd S (fun vs H Q E h => by rw [hm]; exact h.len) (fun A outer s H vs Q' E hr h => ?_)
  obtain ⟨n, F0, ts, Q, x, hl, sb, r, q, kk, kx⟩ := h
  obtain ⟨τ, h1, h2⟩ := hb A outer s H E F0 x hr
  refine ⟨_, h1, startT N ts, n, F0, ends Q, start_rel ⟨fun C d fvs fts n F H f' s' xa rf hx => kx C d fvs fts n F H f' s' xa rf hx⟩ (Fr.refl _ _) sb r, h2 ts n Q hl q, ⟨fun ρ' n' F' σ' H' _ rel q' => ?_, fun _ _ _ _ _ _ _ q' => q'.elim, fun _ _ _ _ _ _ _ q' => q'.elim, fun v t n' F' H' f' s' r' q' => kk v t n' F' H' f' s' r' q'⟩⟩
  exact kk .non .non n' F' H' rel.fr rel.sub .non q'
end
end VL
/-! a list that will be changed in a tuple assignment; ints in lists and tuples -/
namespace VL
open PySem L2 DS PyProof.Rows
section
variable {X : Cx} {Γ : Cn} {e : Expr} {te ta tb : RE} {pos : Pos} {i j : Nat} {st : Stmt}
/-- x, y = e, [..], the pair made and taken apart -/
theorem vs_asgO2 {tl : RA} (h : PS X st (tAsg (tTup (tCons (lE Γ te) (tCons (tLst (lA Γ tl)) tNil))) (L2.gTup X.K 2 (L2.gCons (L2.gName i) (L2.gCons (L2.gName j) L2.gNil))))) : PS X st (lS Γ (vParO2 i j te tl)) :=
  PS.imp h fun D' σ H ⟨ρ, n, F, D, rel, h, ok⟩ => ⟨ρ, n, F, _, rel, h, fun v t n1 F1 H1 f1 s1 r1 q1 =>
    ⟨ρ, n1, F1, _, rel.go f1 s1, q1, fun vs ts n2 F2 H2 f2 s2 r2 q2 => ⟨by rw [r2.length]; exact q2.1, fun p hp => ⟨Nat.le_of_ble_eq_true rfl, fun q hq => ⟨q, _, rfl, .inl (.inl upd_same), rfl, _, _, rfl, _, _, rfl, rfl, by
      have rel2 := ((rel.go f1 s1).go f2 s2).set (i := i) (r1.mono f2.le)
      have rel3 := rel2.setO (i := j) (s1 := .ol ts) hp fun a b => ⟨p, vs, rfl, upd_same, a, b, r2⟩
      obtain ⟨f4, s4⟩ := alloc0 (o := .tup [v, .ref p]) rel3.sub hq
      exact ok.nx _ n2 F2 _ _ (f1.le.trans f2.le) (rel3.go f4 s4) q2.2⟩⟩⟩⟩⟩
theorem vs_par2 {tl : RA} (h : PS X st (tPar i j (lA Γ tl))) : PS X st (lS Γ (vPar i j tl)) := vs_of h fun _ _ _ h => par_in h
theorem vs_par3 {l : Nat} {tl : RA} (h : PS X st (tPar3 i j l (lA Γ tl))) : PS X st (lS Γ (vPar3 i j l tl)) := vs_of h fun _ _ _ h => par3_in h
/-- ints in a list or a tuple -/
def inIQ (neg : Bool) (x : Int) (ts : List Tr) (n : Nat) (Q : VQ) : Prop := ∃ l : List Int, ts = l.map Tr.int ∧ Q (.bl (if neg then !decide (x ∈ l) else decide (x ∈ l))) n
def vInI (neg : Bool) : VR2
  | .int x, .tup ts, n, Q => inIQ neg x ts n Q
  | .int x, .lst ts, n, Q => inIQ neg x ts n Q
  | _, _, _, _ => False
theorem inV_ints (x : Int) : ∀ l : List Int, inV (.int x) (l.map V.int) = decide (x ∈ l)
  | [] => rfl
  | y :: l => by
    have h := inV_ints x l
    unfold inV at h ⊢
    rw [List.map_cons, List.any_cons, h]
    show ((y == x) || _) = _
    by_cases q : y = x
    · subst q; simp
    · have q2 : ¬ x = y := fun z => q z.symm
      simp [q, q2]
theorem inI_rep {neg : Bool} {H : Hp} {Q' : VK} {x : Int} {ry : V} {ty : Tr} {n : Nat} {F : FH} {Q : VQ} (hK : X.K = Γ.g.K) (s : Sub Γ.g n F H) (r : Rep Γ.g F ry ty) (q : vInI neg (.int x) ty n Q) (k : Then Γ.g F H Q Q') : rIn X.K neg (.int x) ry H Q' := by
  cases r with
  | tup e r =>
    obtain ⟨l, rfl, q⟩ := q
    have e2 := r.ints
    subst e2
    refine ⟨_, _, rfl, .inr (by rw [hK]; exact sqT_sub s e), rfl, flat_ints l, k.here s (.bl _) ?_⟩
    rw [inV_ints]
    exact q
  | lst e r =>
    obtain ⟨l, rfl, q⟩ := q
    have e2 := r.ints
    subst e2
    refine ⟨_, _, rfl, .inl (.inl (.inl (s.at_ e))), rfl, flat_ints l, k.here s (.bl _) ?_⟩
    rw [inV_ints]
    exact q
  | _ => exact q.elim
theorem ov_inI (hK : X.K = Γ.g.K) : OpR X (compareOp .In) (lR Γ (vInI false)) := OpR.imp op_in_seq fun x y H Q' ⟨n, F, tx, ty, Q, ok, fr, s, rx, ry, q, k⟩ => by
  cases rx with
  | int x => exact inI_rep hK s ry q k
  | _ => exact q.elim
theorem ov_notInI (hK : X.K = Γ.g.K) : OpR X (compareOp .NotIn) (lR Γ (vInI true)) := OpR.imp op_notIn_seq fun x y H Q' ⟨n, F, tx, ty, Q, ok, fr, s, rx, ry, q, k⟩ => by
  cases rx with
  | int x => exact inI_rep hK s ry q k
  | _ => exact q.elim
end
end VL
/-! data that may be compared, and what == tells of it -/
namespace VL
open PySem L2 DS
structure okK (k : Nat) (t : Tr) : Prop where
  d : isD t = true
  c : PyData.canLay0 (toD t) = true
  h : (toD t).depth ≤ k
theorem okK.okD {k : Nat} {t : Tr} (o : okK k t) (e : k ≤ 64 := by decide) : VL.okD t := by
  refine ⟨o.d, ?_⟩
  unfold SeqAt.shaped
  rw [o.c, Bool.true_and]
  exact decide_eq_true (Nat.le_trans o.h e)
theorem okK.mono {k l : Nat} {t : Tr} (o : okK k t) (e : k ≤ l) : okK l t := ⟨o.d, o.c, Nat.le_trans o.h e⟩
theorem okK.int (i : Int) : okK 0 (.int i) := ⟨rfl, rfl, Nat.le_refl 0⟩
theorem okK.bl (i : Bool) : okK 0 (.bl i) := ⟨rfl, rfl, Nat.le_refl 0⟩
theorem okK.non : okK 0 .non := ⟨rfl, rfl, Nat.le_refl 0⟩
theorem okK.str {x : Str} (h : PyData.canLay0 (.str x) = true := by decide +kernel) : okK 0 (.str x) := ⟨rfl, h, Nat.le_refl 0⟩
theorem okKs {k : Nat} : ∀ {ts : List Tr}, (∀ t ∈ ts, okK k t) → isDs ts = true ∧ PyData.canLayAll0 (toDs ts) = true ∧ PyData.depthAll (toDs ts) ≤ k
  | [], _ => ⟨rfl, rfl, Nat.zero_le _⟩
  | t :: ts, h => by
    obtain ⟨h1, h2, h3⟩ := okKs (ts := ts) fun u m => h u (List.mem_cons_of_mem _ m)
    have o := h t (List.mem_cons_self ..)
    refine ⟨?_, ?_, ?_⟩
    · show (isD t && isDs ts) = true
      rw [o.d, h1]; rfl
    · show PyData.canLayAll0 (toD t :: toDs ts) = true
      unfold PyData.canLayAll0
      rw [o.c, h2]; rfl
    · show PyData.depthAll (toD t :: toDs ts) ≤ k
      unfold PyData.depthAll
      exact Nat.max_le.mpr ⟨o.h, h3⟩
theorem okK.tup {k : Nat} {ts : List Tr} (h : ∀ t ∈ ts, okK k t) : okK (k + 1) (.tup ts) := by
  obtain ⟨h1, h2, h3⟩ := okKs h
  refine ⟨h1, ?_, ?_⟩
  · show PyData.canLay0 (.tuple (toDs ts)) = true
    unfold PyData.canLay0
    exact h2
  · show PyData.depth (.tuple (toDs ts)) ≤ _
    unfold PyData.depth
    omega
theorem okK.lst {k : Nat} {ts : List Tr} (h : ∀ t ∈ ts, okK k t) : okK (k + 1) (.lst ts) := by
  obtain ⟨h1, h2, h3⟩ := okKs h
  refine ⟨h1, ?_, ?_⟩
  · show PyData.canLay0 (.list (toDs ts)) = true
    unfold PyData.canLay0
    exact h2
  · show PyData.depth (.list (toDs ts)) ≤ _
    unfold PyData.depth
    omega
theorem okK.nil {k : Nat} : ∀ t ∈ ([] : List Tr), okK k t := fun _ m => nomatch m
theorem okK.cons {k : Nat} {t : Tr} {ts : List Tr} (o : okK k t) (h : ∀ t ∈ ts, okK k t) : ∀ u ∈ t :: ts, okK k u := fun u m => by
  rcases List.mem_cons.mp m with rfl | m
  · exact o
  · exact h u m
theorem okK.ints {α : Type} (f : α → Int) (l : List α) : ∀ t ∈ l.map (fun a => Tr.int (f a)), okK 0 t := fun t m => by
  obtain ⟨a, _, rfl⟩ := List.mem_map.mp m
  exact .int _
theorem eqT_refl {t : Tr} (h : okD t) : eqT t t = true := SeqAt.eqv_refl _ (SeqAt.canLay_of_shaped h.2)
theorem eqT_int (i j : Int) : eqT (.int i) (.int j) = decide (i = j) := by
  show (i == j) = _
  by_cases h : i = j
  · subst h; simp
  · simp [h]
def eqTs (ts us : List Tr) : Bool := PyData.eqvAll (toDs ts) (toDs us)
theorem eqT_tup (ts us : List Tr) : eqT (.tup ts) (.tup us) = eqTs ts us := by
  unfold eqT eqTs
  show PyData.eqv (.tuple (toDs ts)) (.tuple (toDs us)) = _
  rw [PyData.eqv]
theorem eqT_lst (ts us : List Tr) : eqT (.lst ts) (.lst us) = eqTs ts us := by
  unfold eqT eqTs
  show PyData.eqv (.list (toDs ts)) (.list (toDs us)) = _
  rw [PyData.eqv]
theorem eqTs_cons (t u : Tr) (ts us : List Tr) : eqTs (t :: ts) (u :: us) = (eqT t u && eqTs ts us) := by
  unfold eqTs eqT
  show PyData.eqvAll (toD t :: toDs ts) (toD u :: toDs us) = _
  rw [PyData.eqvAll]
theorem eqTs_nil : eqTs [] [] = true := rfl
theorem eqT_ints : ∀ (l m : List Int), eqTs (l.map Tr.int) (m.map Tr.int) = decide (l = m)
  | [], [] => rfl
  | [], _ :: _ => rfl
  | _ :: _, [] => rfl
  | x :: l, y :: m => by
    rw [List.map_cons, List.map_cons, eqTs_cons, eqT_int, eqT_ints l m]
    by_cases h : x = y
    · subst h
      by_cases h2 : l = m
      · subst h2; simp
      · simp [h2]
    · simp [h]
theorem eqT_ii (a b c d : Int) : eqT (.tup [.int a, .int b]) (.tup [.int c, .int d]) = decide (a = c ∧ b = d) := by
  rw [eqT_tup, eqTs_cons, eqTs_cons, eqTs_nil, eqT_int, eqT_int, Bool.and_true]
  by_cases h : a = c <;> by_cases h2 : b = d <;> simp [h, h2]
theorem okK.ii (a b : Int) : okK 1 (.tup [.int a, .int b]) := .tup (.cons (.int a) (.cons (.int b) .nil))
end VL
/-! data in lists and tuples; lists repeated; pairs sorted; names that hold one of several defs; promises weakened -/
namespace VL
open PySem L2 DS PyProof.Rows
theorem FnOk.imp {P : Program} {w : World} {K : PySem.W.Frag} {mg : Str → Option Value} {base : Heap} {CX : CXT} {k : Nat} {f : Addr} {fd : FuncData} {ps : List Str} {sp sp' : Sp} (F : FnOk P w K mg base CX k f fd ps sp) (h : ∀ vs H Q E, sp' vs H Q E → sp vs H Q E) : FnOk P w K mg base CX k f fd ps sp' :=
  ⟨fun vs H Q E q => F.len vs H Q E (h _ _ _ _ q), fun A outer s H args us vs Q E hr e0 hb r hs => F.run A outer s H args us vs Q E hr e0 hb r (h _ _ _ _ hs)⟩
section
variable {X : Cx} {Γ : Cn} {e : Expr} {te ta tb : RE} {pos : Pos} {i j : Nat} {st : Stmt}
/-! ### in, for data -/
def anyT (neg : Bool) (t : Tr) (us : List Tr) : Bool := if neg then !us.any (fun z => eqT z t) else us.any (fun z => eqT z t)
def vInD (neg : Bool) : VR2
  | t, .tup us, n, Q => okD t ∧ okD (.tup us) ∧ Q (.bl (anyT neg t us)) n
  | t, .lst us, n, Q => okD t ∧ okD (.lst us) ∧ Q (.bl (anyT neg t us)) n
  | _, _, _, _ => False
def rInDT (K : PySem.W.Frag) (neg : Bool) : R2 := fun x y H Q => ∃ d ds, Dp K H x d ∧ (Dp K H y (.tuple ds) ∨ Dp K H y (.list ds)) ∧ d.canLay0 = true ∧ PyData.canLayAll0 ds = true ∧ d.depth ≤ 64 ∧ Q (.bl (if neg then !ds.any (fun z => PyData.eqv z d) else ds.any (fun z => PyData.eqv z d))) H
theorem hu65 {k : Nat} {A : Around} (hr : Room k A) (d : PyData) (ds : List PyData) (h : d.depth ≤ 64) : A.units + 1 + min (PyData.depthAll ds) d.depth < cLine := by
  have := hr.un
  have h2 : min (PyData.depthAll ds) d.depth ≤ d.depth := Nat.min_le_right _ _
  omega
theorem op_inDT {k : Nat} (hr : Room k X.A) : OpR X (compareOp .In) (rInDT X.K false) := fun pins s σ H x y v u Q I rx ry ⟨d, ds, hd, he, c1, c2, dp, q⟩ => by
  obtain ⟨as, r1⟩ := Dp.reads I d x v hd rx
  rcases he with he | he
  · obtain ⟨bs, r2⟩ := Dp.reads I (.tuple ds) y u he ry
    exact SeqAt.in_tuple_reads r2 r1 c2 c1 (hu65 hr d ds dp) ⟨.bl _, H, I, rfl, q⟩
  · obtain ⟨bs, r2⟩ := Dp.reads I (.list ds) y u he ry
    exact SeqAt.in_list_reads r2 r1 c2 c1 (hu65 hr d ds dp) ⟨.bl _, H, I, rfl, q⟩
theorem op_notInDT {k : Nat} (hr : Room k X.A) : OpR X (compareOp .NotIn) (rInDT X.K true) := fun pins s σ H x y v u Q I rx ry ⟨d, ds, hd, he, c1, c2, dp, q⟩ => by
  obtain ⟨as, r1⟩ := Dp.reads I d x v hd rx
  rcases he with he | he
  · obtain ⟨bs, r2⟩ := Dp.reads I (.tuple ds) y u he ry
    exact SeqAt.notIn_tuple_reads r2 r1 c2 c1 (hu65 hr d ds dp) ⟨.bl _, H, I, rfl, q⟩
  · obtain ⟨bs, r2⟩ := Dp.reads I (.list ds) y u he ry
    exact SeqAt.notIn_list_reads r2 r1 c2 c1 (hu65 hr d ds dp) ⟨.bl _, H, I, rfl, q⟩
theorem any_toDs (p : PyData → Bool) : ∀ us : List Tr, (toDs us).any p = us.any fun z => p (toD z)
  | [] => rfl
  | u :: us => by
    show (toD u :: toDs us).any p = _
    rw [List.any_cons, List.any_cons, any_toDs p us]
theorem inD_rep {neg : Bool} {H : Hp} {Q' : VK} {vx vy : V} {tx ty : Tr} {n : Nat} {F : FH} {Q : VQ} (hK : X.K = Γ.g.K) (s : Sub Γ.g n F H) (rx : Rep Γ.g F vx tx) (ry : Rep Γ.g F vy ty) (q : vInD neg tx ty n Q) (k : Then Γ.g F H Q Q') : rInDT X.K neg vx vy H Q' := by
  have key : ∀ {us : List Tr}, okD tx → (Dp Γ.g.K H vy (.tuple (toDs us)) ∨ Dp Γ.g.K H vy (.list (toDs us))) → PyData.canLayAll0 (toDs us) = true → Q (.bl (anyT neg tx us)) n → rInDT X.K neg vx vy H Q' := fun {us} o d c q => by
    refine ⟨toD tx, toDs us, by rw [hK]; exact dp_rep s rx o.1, by rw [hK]; exact d, SeqAt.canLay_of_shaped o.2, c, SeqAt.depth_of_shaped o.2, ?_⟩
    rw [any_toDs]
    exact k.here s (.bl _) q
  cases ry with
  | tup e r =>
    obtain ⟨o1, o2, q⟩ := q
    have c := SeqAt.canLay_of_shaped o2.2
    exact key o1 (.inl (dp_rep s (.tup e r) o2.1)) (by have c : PyData.canLay0 (.tuple (toDs _)) = true := c; unfold PyData.canLay0 at c; exact c) q
  | lst e r =>
    obtain ⟨o1, o2, q⟩ := q
    have c := SeqAt.canLay_of_shaped o2.2
    exact key o1 (.inr (dp_rep s (.lst e r) o2.1)) (by have c : PyData.canLay0 (.list (toDs _)) = true := c; unfold PyData.canLay0 at c; exact c) q
  | _ => exact q.elim
theorem ov_inD {k : Nat} (hK : X.K = Γ.g.K) (hr : Room k X.A) : OpR X (compareOp .In) (lR Γ (vInD false)) := OpR.imp (op_inDT hr) fun x y H Q' ⟨n, F, tx, ty, Q, ok, fr, s, rx, ry, q, kk⟩ => inD_rep hK s rx ry q kk
theorem ov_notInD {k : Nat} (hK : X.K = Γ.g.K) (hr : Room k X.A) : OpR X (compareOp .NotIn) (lR Γ (vInD true)) := OpR.imp (op_notInDT hr) fun x y H Q' ⟨n, F, tx, ty, Q, ok, fr, s, rx, ry, q, kk⟩ => inD_rep hK s rx ry q kk
/-! ### xs * k -/
def vRep : VR2
  | .lst ts, .int k, n, Q => -(2 ^ 63) ≤ k ∧ k < 2 ^ 63 ∧ ts.length * k.toNat ≤ sizeLine ∧ Q (.lst (List.replicate k.toNat ts).flatten) n
  | _, _, _, _ => False
theorem Reps.rep {g : Gb} {F : FH} {vs : List V} {ts : List Tr} (r : Reps g F vs ts) : ∀ k, Reps g F (List.replicate k vs).flatten (List.replicate k ts).flatten
  | 0 => .nil
  | k + 1 => by
    rw [List.replicate_succ, List.replicate_succ, List.flatten_cons, List.flatten_cons]
    exact r.append (Reps.rep r k)
theorem ov_rep : OpR X (binaryOp .Mult) (lR Γ vRep) := OpR.imp op_rep fun x y H Q' ⟨n, F, tx, ty, Q, ok, fr, s, rx, ry, q, k⟩ => by
  cases rx with
  | lst e r => cases ry with
    | int j =>
      obtain ⟨q1, q2, q3, q⟩ := q
      refine ⟨_, j, _, rfl, rfl, s.at_ e, q1, q2, by rw [r.length]; exact q3, fun p hp => ?_⟩
      obtain ⟨f2, s2⟩ := alloc (o := .lst (List.replicate j.toNat _).flatten) s hp
      exact k _ _ n _ _ f2 s2 (.lst updF_same ((Reps.rep r _).mono f2.le)) q
    | _ => exact q.elim
  | _ => exact q.elim
/-! ### a name that holds one of several defs -/
def vCallLs (i : Nat) (m : Nat) (x : XQ) (l : List (Addr × VSp)) (a : RA) : RE := fun n ρ Q => ∃ p, p ∈ l ∧ defQ p.1 (gt ρ i) ∧ a n ρ fun ts n1 => ts.length = m ∧ p.2 ts n1 Q x
theorem ve_callLs {o : Expr} {m : Nat} {l : List (Addr × VSp)} {tl : RA} (h : ∀ p ∈ l, PE X o (tCallL i p.1 (lSp Γ.g m p.2) [] Γ.E (lA Γ tl))) : PE X o (lE Γ (vCallLs i m Γ.x l tl)) :=
  ⟨fun pins s σ H Q' I ⟨ρ, n, F, Q, rel, ⟨p, hp, h1⟩, k⟩ => (h p hp).run pins s σ H Q' I (callL_in rel k h1)⟩
theorem all_nil {α : Type} {P : α → Prop} : ∀ p ∈ ([] : List α), P p := fun _ m => nomatch m
theorem all_cons {α : Type} {P : α → Prop} {a : α} {l : List α} (h : P a) (r : ∀ p ∈ l, P p) : ∀ p ∈ a :: l, P p := fun p m => by
  rcases List.mem_cons.mp m with rfl | m
  · exact h
  · exact r p m
end
/-! ### pairs sorted -/
def pairT (p : Int × Int) : Tr := .tup [.int p.1, .int p.2]
inductive RepP (g : Gb) (F : FH) : List V → List (Int × Int) → Prop
  | nil : RepP g F [] []
  | cons {v : V} {p : Int × Int} {vs : List V} {l : List (Int × Int)} (r : Rep g F v (pairT p)) (rs : RepP g F vs l) : RepP g F (v :: vs) (p :: l)
theorem RepP.of {g : Gb} {F : FH} : ∀ {vs : List V} {l : List (Int × Int)}, Reps g F vs (l.map pairT) → RepP g F vs l
  | _, [], .nil => .nil
  | _, _ :: _, .cons r rs => .cons r (RepP.of rs)
theorem RepP.reps {g : Gb} {F : FH} : ∀ {vs : List V} {l : List (Int × Int)}, RepP g F vs l → Reps g F vs (l.map pairT)
  | _, _, .nil => .nil
  | _, _, .cons r rs => .cons r rs.reps
theorem RepP.perm {g : Gb} {F : FH} {vs us : List V} (h : vs.Perm us) : ∀ {l : List (Int × Int)}, RepP g F us l → ∃ l', l'.Perm l ∧ RepP g F vs l' := by
  induction h with
  | nil => intro l r; cases r; exact ⟨[], .nil, .nil⟩
  | cons x _ ih =>
    intro l r
    cases r with
    | cons r rs =>
      obtain ⟨l', p, q⟩ := ih rs
      exact ⟨_, p.cons _, .cons r q⟩
  | swap x y l0 =>
    intro l r
    cases r with
    | cons r rs => cases rs with
      | cons r2 rs => exact ⟨_, List.Perm.swap _ _ _, .cons r2 (.cons r rs)⟩
  | trans _ _ ih1 ih2 =>
    intro l r
    obtain ⟨l1, p1, q1⟩ := ih2 r
    obtain ⟨l2, p2, q2⟩ := ih1 q1
    exact ⟨l2, p2.trans p1, q2⟩
theorem RepP.mem {g : Gb} {F : FH} : ∀ {vs : List V} {l : List (Int × Int)}, RepP g F vs l → ∀ v ∈ vs, ∃ p ∈ l, Rep g F v (pairT p)
  | _, _, .nil, v, m => nomatch m
  | _, _, .cons r rs, v, m => by
    rcases List.mem_cons.mp m with rfl | m
    · exact ⟨_, List.mem_cons_self .., r⟩
    · obtain ⟨p, h1, h2⟩ := rs.mem v m
      exact ⟨p, List.mem_cons_of_mem _ h1, h2⟩
theorem RepP.length {g : Gb} {F : FH} : ∀ {vs : List V} {l : List (Int × Int)}, RepP g F vs l → vs.length = l.length
  | _, _, .nil => rfl
  | _, _, .cons _ rs => congrArg (· + 1) rs.length
/-- sorted(xs), xs pairs of ints -/
def cSortP (B : Int) : VRL
  | [.lst ts], n, Q => ∃ l : List (Int × Int), ts = l.map pairT ∧ l.length < 64 ∧ (∀ p ∈ l, TS.Bd B [p.1, p.2]) ∧ ∀ l' : List (Int × Int), l'.Perm l → l'.Pairwise (fun p q => TS.code B [p.1, p.2] ≤ TS.code B [q.1, q.2]) → Q (.lst (l'.map pairT)) n
  | _, _, _ => False
theorem pw_rep {g : Gb} {F : FH} {B : Int} {H : Hp} (hs : ∀ {v : V} {p : Int × Int}, Rep g F v (pairT p) → TupI g.K H v [p.1, p.2]) : ∀ {vs : List V} {l : List (Int × Int)}, RepP g F vs l → vs.Pairwise (fun x y => ∀ n m, TupI g.K H x n → TupI g.K H y m → TS.code B n ≤ TS.code B m) → l.Pairwise (fun p q => TS.code B [p.1, p.2] ≤ TS.code B [q.1, q.2])
  | _, _, .nil, _ => .nil
  | _, _, .cons (v := v) (p := p) (vs := vs) (l := l) r rs, h => by
    obtain ⟨h1, h2⟩ := List.pairwise_cons.mp h
    refine List.pairwise_cons.mpr ⟨fun q mq => ?_, pw_rep hs rs h2⟩
    have : ∀ {vs : List V} {l : List (Int × Int)}, RepP g F vs l → ∀ q ∈ l, ∃ u ∈ vs, Rep g F u (pairT q) := fun {vs l} rs => by
      induction rs with
      | nil => exact fun q m => nomatch m
      | cons r rs ih =>
        intro q m
        rcases List.mem_cons.mp m with rfl | m
        · exact ⟨_, List.mem_cons_self .., r⟩
        · obtain ⟨u, mu, ru⟩ := ih q m
          exact ⟨u, List.mem_cons_of_mem _ mu, ru⟩
    obtain ⟨u, mu, ru⟩ := this rs q mq
    exact h1 u mu _ _ (hs r) (hs ru)
theorem cv_sortP {X : Cx} {Γ : Cn} (B : Int) (hK : X.K = Γ.g.K) : CallR X (.builtin "sorted") (lC Γ (cSortP B)) := CallR.imp (cr_sortT (d := 2) (B := B) (by decide)) fun xs H Q' ⟨n, F, ts, Q, ok, fr, s, r, q, k⟩ => by
  match ts, q, r with
  | [.lst ts], ⟨l, e, h64, hb, q⟩, r =>
    subst e
    obtain ⟨v, rfl, rv⟩ := r.one
    cases rv with
    | lst e r =>
      have rp := RepP.of r
      have hs : ∀ {v : V} {p : Int × Int}, Rep Γ.g F v (pairT p) → TupI Γ.g.K H v [p.1, p.2] := fun {v p} rv => by
        cases rv with
        | tup e r =>
          obtain ⟨a, b, rfl, ra, rb⟩ := r.two
          cases ra
          cases rb
          exact ⟨_, rfl, sqT_sub s e⟩
      refine ⟨_, _, rfl, .inl (.inl (s.at_ e)), by rw [rp.length]; exact h64, fun x mx => ?_, fun ys p hp hw np => ?_⟩
      · obtain ⟨p, mp, rx⟩ := rp.mem x mx
        exact ⟨_, by rw [hK]; exact hs rx, rfl, hb p mp⟩
      · obtain ⟨l', pl, rl⟩ := rp.perm hp
        rw [hK] at hw
        obtain ⟨f2, s2⟩ := alloc (o := .lst ys) s np
        exact k _ _ n _ _ f2 s2 (.lst updF_same (rl.reps.mono f2.le)) (q l' pl (pw_rep hs rl hw))
end VL
/-! is True; three names at once, the last one a list that will be changed; == of what holds instances -/
namespace VL
open PySem L2 DS PyProof.Rows
section
variable {X : Cx} {Γ : Cn} {e : Expr} {te tf ta tb : RE} {pos : Pos} {i j l : Nat} {st : Stmt}
def vIsB (neg : Bool) : VR2
  | .bl a, .bl b, n, Q => Q (.bl (if neg then !decide (a = b) else decide (a = b))) n
  | _, _, _, _ => False
theorem ov_isB : OpR X (compareOp .Is) (lR Γ (vIsB false)) := OpR.imp op_isBl fun x y H Q' ⟨n, F, tx, ty, Q, ok, fr, s, rx, ry, q, k⟩ => by
  cases rx with
  | bl a => cases ry with
    | bl b => exact ⟨a, b, rfl, rfl, k.here s (.bl _) q⟩
    | _ => exact q.elim
  | _ => exact q.elim
theorem ov_notB : OpR X (compareOp .IsNot) (lR Γ (vIsB true)) := OpR.imp op_notBl fun x y H Q' ⟨n, F, tx, ty, Q, ok, fr, s, rx, ry, q, k⟩ => by
  cases rx with
  | bl a => cases ry with
    | bl b => exact ⟨a, b, rfl, rfl, k.here s (.bl _) q⟩
    | _ => exact q.elim
  | _ => exact q.elim
/-- x, y, z = e, f, [..]: z is a list that will be changed -/
def vPar3O (i j l : Nat) (e f : RE) (a : RA) : RS := fun D n ρ => e n ρ fun t n1 => f n1 ρ fun u n2 => a n2 ρ fun ts n3 => ts.length ≤ sizeLine ∧ D.nx n3 (((ρ.set i (.v t)).set j (.v u)).set l (.ol ts))
theorem vs_par3O {tl : RA} (h : PS X st (tPar3 i j l (tCons (lE Γ te) (tCons (lE Γ tf) (tCons (tLst (lA Γ tl)) tNil))))) : PS X st (lS Γ (vPar3O i j l te tf tl)) :=
  PS.imp h fun D' σ H ⟨ρ, n, F, D, rel, h, ok⟩ => ⟨ρ, n, F, _, rel, h, fun v t n1 F1 H1 f1 s1 r1 q1 =>
    ⟨ρ, n1, F1, _, rel.go f1 s1, q1, fun v2 t2 n2 F2 H2 f2 s2 r2 q2 => ⟨ρ, n2, F2, _, (rel.go f1 s1).go f2 s2, q2, fun vs ts n3 F3 H3 f3 s3 r3 q3 => ⟨by rw [r3.length]; exact q3.1, fun p hp => ⟨_, _, _, rfl, by
      have rel2 := ((((rel.go f1 s1).go f2 s2).go f3 s3).set (i := i) ((r1.mono f2.le).mono f3.le)).set (i := j) (r2.mono f3.le)
      exact ok.nx _ n3 F3 _ _ ((f1.le.trans f2.le).trans f3.le) (rel2.setO (s1 := .ol ts) hp fun a b => ⟨p, vs, rfl, upd_same, a, b, r3⟩) q3.2⟩⟩⟩⟩⟩
end
/-! ### == of lists and tuples that hold instances: the same tree twice -/
/-- both values are this tree -/
def DT (g : Gb) (t : Tr) : Eqv := fun x y H => ∃ F n, Sub g n F H ∧ Rep g F x t ∧ Rep g F y t
theorem mon_DT {g : Gb} {t : Tr} : Mon (DT g t) := fun x y H H' e ⟨F, n, s, rx, ry⟩ => ⟨F, n, s.ofSame e, rx, ry⟩
/-- trees that own == looks into: instances of the class at C whose fields are as ok says -/
inductive NiceG (C : Addr) (ok : List (Str × Tr) → Prop) : Nat → Tr → Prop
  | int (i : Int) : NiceG C ok 0 (.int i)
  | str (x : Str) : NiceG C ok 0 (.str x)
  | bl (b : Bool) : NiceG C ok 0 (.bl b)
  | non : NiceG C ok 0 .non
  | ins {fs : List (Str × Tr)} (h : ok fs) : NiceG C ok 0 (.ins C fs)
  | up {k : Nat} {t : Tr} (h : NiceG C ok k t) : NiceG C ok (k + 1) t
  | tup {k : Nat} {ts : List Tr} (h : ∀ t ∈ ts, NiceG C ok k t) : NiceG C ok (k + 1) (.tup ts)
  | lst {k : Nat} {ts : List Tr} (h : ∀ t ∈ ts, NiceG C ok k t) : NiceG C ok (k + 1) (.lst ts)
theorem prs_reps {g : Gb} {F : FH} {H : Hp} {n : Nat} (s : Sub g n F H) {ts0 : List Tr} : ∀ {xs ys : List V} {ts : List Tr}, (∀ t ∈ ts, t ∈ ts0) → Reps g F xs ts → Reps g F ys ts → Prs (fun x y H => ∃ t, t ∈ ts0 ∧ DT g t x y H) xs ys H
  | _, _, _, _, .nil, .nil => Prs.nil
  | _, _, _, hm, .cons r rs, .cons q qs => Prs.cons ⟨_, hm _ (List.mem_cons_self ..), F, n, s, r, q⟩ (prs_reps s (fun t m => hm t (List.mem_cons_of_mem _ m)) rs qs)
theorem eqG_ex {X : Cx} {n : Nat} {α : Type} {D : α → Eqv} {P : α → Prop} (h : ∀ a, P a → EqG X n (D a)) : EqG X n (fun x y H => ∃ a, P a ∧ D a x y H) := fun A pins s σ H x y u v sb I rx ry ⟨a, pa, d⟩ => h a pa A pins s σ H x y u v sb I rx ry d
theorem mon_ex {α : Type} {D : α → Eqv} {P : α → Prop} (h : ∀ a, Mon (D a)) : Mon (fun x y H => ∃ a, P a ∧ D a x y H) := fun x y H H' e ⟨a, pa, d⟩ => ⟨a, pa, h a x y H H' e d⟩
theorem rep_ref {g : Gb} {F : FH} {v : V} {t : Tr} (r : Rep g F v t) (h : (∃ ts, t = .tup ts) ∨ (∃ ts, t = .lst ts) ∨ ∃ C fs, t = .ins C fs) : ∃ a, v = .ref a := by
  rcases h with ⟨ts, rfl⟩ | ⟨ts, rfl⟩ | ⟨C, fs, rfl⟩ <;> cases r <;> exact ⟨_, rfl⟩
section
variable {X : Cx} {g : Gb} {C : Addr} {ok : List (Str × Tr) → Prop} {m : Nat}
theorem rcG_tup' (hK : X.K = g.K) {k : Nat} {ts : List Tr} (ih : ∀ t ∈ ts, EqG X k (DT g t)) : RcG X (k + 1) (DT g (.tup ts)) := fun A pins s σ H x y u v sb I rx ry ⟨F, n, sbs, r1, r2⟩ => by
  cases r1 with
  | tup e1 q1 =>
    cases r2 with
    | tup e2 q2 =>
      exact rcG_tup (D := fun x y H => ∃ t, t ∈ ts ∧ DT g t x y H) (mon_ex fun _ => mon_DT) (eqG_ex ih) A pins s σ H _ _ u v sb I rx ry ⟨_, _, _, _, rfl, rfl, by rw [hK]; exact sqT_sub sbs e1, by rw [hK]; exact sqT_sub sbs e2, prs_reps sbs (fun _ h => h) q1 q2⟩
theorem rcG_lst' {k : Nat} {ts : List Tr} (ih : ∀ t ∈ ts, EqG X k (DT g t)) : RcG X (k + 1) (DT g (.lst ts)) := fun A pins s σ H x y u v sb I rx ry ⟨F, n, sbs, r1, r2⟩ => by
  cases r1 with
  | lst e1 q1 =>
    cases r2 with
    | lst e2 q2 =>
      exact rcG_list (D := fun x y H => ∃ t, t ∈ ts ∧ DT g t x y H) (mon_ex fun _ => mon_DT) (eqG_ex ih) A pins s σ H _ _ u v sb I rx ry ⟨_, _, _, _, rfl, rfl, sbs.at_ e1, sbs.at_ e2, prs_reps sbs (fun _ h => h) q1 q2⟩
theorem eqG_tree (hK : X.K = g.K) (hI : ∀ fs, ok fs → RcG X m (DT g (.ins C fs))) : ∀ {k : Nat} {t : Tr}, NiceG C ok k t → EqG X (m + k) (DT g t) := by
  intro k t h
  induction h with
  | int i => exact (eqG_flat.imp fun x y H ⟨F, n, s, r1, r2⟩ => by cases r1; cases r2; exact ⟨rfl, rfl, by simp [eqV]⟩).mono (Nat.zero_le _)
  | str x => exact (eqG_flat.imp fun x y H ⟨F, n, s, r1, r2⟩ => by cases r1; cases r2; exact ⟨rfl, rfl, by simp [eqV]⟩).mono (Nat.zero_le _)
  | bl b => exact (eqG_flat.imp fun x y H ⟨F, n, s, r1, r2⟩ => by cases r1; cases r2; exact ⟨rfl, rfl, by simp [eqV]⟩).mono (Nat.zero_le _)
  | non => exact (eqG_flat.imp fun x y H ⟨F, n, s, r1, r2⟩ => by cases r1; cases r2; exact ⟨rfl, rfl, by simp [eqV]⟩).mono (Nat.zero_le _)
  | ins h =>
    exact (hI _ h).eqG fun x y H ⟨F, n, s, r1, r2⟩ => by
      obtain ⟨a, ea⟩ := rep_ref r1 (.inr (.inr ⟨_, _, rfl⟩))
      obtain ⟨b, eb⟩ := rep_ref r2 (.inr (.inr ⟨_, _, rfl⟩))
      exact ⟨a, b, ea, eb⟩
  | up h ih => exact ih.mono (by omega)
  | tup h ih =>
    exact (rcG_tup' hK ih).eqG fun x y H ⟨F, n, s, r1, r2⟩ => by
      obtain ⟨a, ea⟩ := rep_ref r1 (.inl ⟨_, rfl⟩)
      obtain ⟨b, eb⟩ := rep_ref r2 (.inl ⟨_, rfl⟩)
      exact ⟨a, b, ea, eb⟩
  | lst h ih =>
    exact (rcG_lst' ih).eqG fun x y H ⟨F, n, s, r1, r2⟩ => by
      obtain ⟨a, ea⟩ := rep_ref r1 (.inr (.inl ⟨_, rfl⟩))
      obtain ⟨b, eb⟩ := rep_ref r2 (.inr (.inl ⟨_, rfl⟩))
      exact ⟨a, b, ea, eb⟩
theorem rcG_tree (hK : X.K = g.K) (hI : ∀ fs, ok fs → RcG X m (DT g (.ins C fs))) {k : Nat} {ts : List Tr} (h : ∀ t ∈ ts, NiceG C ok k t) : RcG X (m + k + 1) (DT g (.lst ts)) := rcG_lst' fun t mt => eqG_tree hK hI (h t mt)
end
/-- xs == ys, lists of the same trees -/
def vEqG (C : Addr) (ok : List (Str × Tr) → Prop) (k : Nat) : VR2
  | .lst ts, .lst us, n, Q => ts = us ∧ (∀ t ∈ ts, NiceG C ok k t) ∧ Q (.bl true) n
  | _, _, _, _ => False
theorem ov_eqG {X : Cx} {Γ : Cn} {C : Addr} {ok : List (Str × Tr) → Prop} {m k : Nat} (hK : X.K = Γ.g.K) (hI : ∀ fs, ok fs → RcG X m (DT Γ.g (.ins C fs))) (hr : Room (m + k + 1) X.A) : OpR X (compareOp .Eq) (lR Γ (vEqG C ok k)) := by
  have all : ∀ ts : List Tr, (∀ t ∈ ts, NiceG C ok k t) → OpR X (compareOp .Eq) (rEqG (DT Γ.g (.lst ts))) := fun ts h => op_eqG (rcG_tree hK hI h) hr
  intro pins s σ H x y v u Q' I rx ry ⟨n, F, tx, ty, Q, okk, fr, sb, r1, r2, q, kk⟩
  cases r1 with
  | lst e1 q1 => cases r2 with
    | lst e2 q2 =>
      obtain ⟨rfl, hn, q⟩ := q
      refine all _ hn pins s σ H _ _ v u Q' I rx ry ⟨⟨F, n, sb, .lst e1 q1, .lst e2 q2⟩, fun H' e => ?_⟩
      exact kk _ _ n F H' (Fr.ofSame e) (sb.ofSame e) (.bl true) q
    | _ => exact q.elim
  | _ => exact q.elim
theorem cdivp {a b : Int} {k : Nat} (h0 : 0 < b) (h : B k b) (e : k ≤ 9000) : CDivP a b := ⟨h0, PyProof.noPylong_of_log2 (h.log h0 e)⟩
/-- a comprehension with a filter, by a relation -/
theorem lc_relF0 {α : Type} {g : RG} {tt : RT} {te : RE} {ρ : List Sl} {Q : VQ} {n : Nat} (R : Tr → α → Prop) (keep : α → Bool) (f : α → Tr) : ∀ {ts : List Tr} {l : List α} {acc : List Tr}, RL R ts l → acc.length + ts.length ≤ sizeLine → (∀ t x, x ∈ l → R t x → ∀ (K1 : VQ) (K2 : Nat → Prop), (keep x = true → K1 (f x) n) → (keep x = false → K2 n) → g t n ρ fun n1 ρ1 => tt n1 ρ1 fun b n2 => if b = true then te n2 ρ1 K1 else K2 n2) → Q (.lst (acc ++ (l.filter keep).map f)) n → lcW g tt te ρ Q ts acc n
  | _, _, acc, .nil, hl, h, q => by
    rw [List.filter_nil, List.map_nil, List.append_nil] at q
    exact q
  | _, _, acc, .cons (t := t) (x := x) (ts := ts) (l := l) a r, hl, h, q => by
    unfold lcW
    rw [List.length_cons] at hl
    refine h t x (List.mem_cons_self ..) a _ _ (fun k => ?_) (fun k => ?_)
    · refine ⟨by omega, ?_⟩
      refine lc_relF0 R keep f r ?_ (fun t x m => h t x (List.mem_cons_of_mem _ m)) ?_
      · rw [List.length_append, List.length_singleton]; omega
      · rw [List.filter_cons, if_pos k, List.map_cons] at q
        rw [List.append_assoc]; exact q
    · refine lc_relF0 R keep f r (by omega) (fun t x m => h t x (List.mem_cons_of_mem _ m)) ?_
      rw [List.filter_cons, if_neg (by rw [k]; decide)] at q
      exact q
theorem lc_relF {α : Type} {g : RG} {tt : RT} {te : RE} {ρ : List Sl} {Q : VQ} {n : Nat} (R : Tr → α → Prop) (keep : α → Bool) (f : α → Tr) {ts : List Tr} {l : List α} (r : RL R ts l) (hl : ts.length ≤ sizeLine) (h : ∀ t x, x ∈ l → R t x → ∀ (K1 : VQ) (K2 : Nat → Prop), (keep x = true → K1 (f x) n) → (keep x = false → K2 n) → g t n ρ fun n1 ρ1 => tt n1 ρ1 fun b n2 => if b = true then te n2 ρ1 K1 else K2 n2) (q : Q (.lst ((l.filter keep).map f)) n) : lcW g tt te ρ Q ts [] n :=
  lc_relF0 R keep f r (by rw [List.length_nil, Nat.zero_add]; exact hl) h q
theorem szl {n : Nat} (h : n ≤ 16000000) : n ≤ sizeLine := Nat.le_trans h (by decide)
theorem szlt {n : Nat} (h : n ≤ 16000000) : n < sizeLine := Nat.lt_of_le_of_lt h (by decide)
end VL
/-! an own operator with an int on its right; != of tuples that hold instances: the same tree twice -/
namespace VL
open PySem L2 DS in
theorem mk_intR {K : PySem.W.Frag} {C : Addr} {op : Operator} {n r : Str} {x : Option Value} {f g : Option Value} (hn : PySem.dunder op.info.2 = n) (hr : PySem.dunderR op.info.2 = r) (a : PySem.W.findIn K (.ref C) r = some x) (hx : x = none ∨ ∃ g : Addr, x = some (.ref g)) (b : PySem.W.findIn K (.type "int") n = some f) (c : PySem.W.findIn K (.type "int") r = some g) (d : PySem.W.subIn K (.type "int") (.ref C) = some false) : IntR K C op := by
  subst hn; subst hr
  exact ⟨⟨x, a, hx⟩, ⟨f, b⟩, ⟨g, c⟩, d⟩
section
open PySem PySem.SeqAt
variable {prog : Program} {w : World} {A : Around}
/-- the items are equal two by two, whatever their own == makes: != is False -/
theorem tupNe {l b : Addr} {xs ys : Array Value} {n m : Nat} {dx dy : Option Addr} {sx sy : Array (Option Value)} {R : Result → Shared → Prop} {s : Shared} (J : Shared → Prop) (sz : xs.size = ys.size)
    (step : ∀ p ∈ xs.toList.zip ys.toList, ∀ s, J s → wpAny (model prog w) A.in1 (eqBool p.1 p.2) (fun r s' => r = true ∧ J s') (fun e s' => R (.error e) s') s)
    (done : ∀ s, J s → R (.ok (.ret (.bool false))) s)
    (gx : s.heap.get? l = some ⟨.type "tuple", dx, .seq xs n, sx⟩) (gy : s.heap.get? b = some ⟨.type "tuple", dy, .seq ys m, sy⟩) (j0 : J s) :
    wpAny (model prog w) A.in1 (Builtin.«tuple.__ne__» ⟨[.ref l, .ref b], []⟩) (GQ.FinOf prog w A R) (fun e s' => R (.error e) s') s := by
  have sub := AutoSeq1.sub_tuple_tuple
  have j1 := j0
  obtain ⟨hp, g, d, tk, os⟩ := s
  wp_walk using AutoSeq1.wpAny_loadPart' gx, AutoSeq1.wpAny_loadPart' gy, wpAny_forIn_list _ (fun rest acc s' => acc.1 = none ∧ (∀ p ∈ rest, p ∈ xs.toList.zip ys.toList) ∧ J s') _
  case turn =>
    rintro p rest acc s' ⟨ea, hm, hj⟩
    refine wpAny_bind (wpAny_mono (step p (hm p (List.mem_cons_self ..)) s' hj) (fun r s2 ⟨hr, j2⟩ => ?_) fun _ _ x => x)
    subst hr
    wp_walk
    exact ⟨rfl, fun q mq => hm q (List.mem_cons_of_mem _ mq), j2⟩
  case fin =>
    rintro ⟨a1, a2⟩ s' ⟨ea, _, hj⟩
    cases (show a1 = none from ea)
    have z := done s' hj
    wp_walk
    simpa [Builtin.Tuple.tupleCompareSizes, sz] using z
  case h => exact ⟨rfl, fun _ h => h, j1⟩
end
section
open PySem L2 DS PyProof.Rows
/-- != gives False for what D says, and only makes objects -/
def NcG (X : Cx) (n : Nat) (D : Eqv) : Prop := ∀ (A : Around) (pins : List (Addr × Obj)) (s : Shared) (σ : L2.St) (H : Hp) (x y : V) (u v : Value), L2.Sub X n A → Inv X pins σ H s → RelV x u → RelV y v → D x y H →
  wpAny (model X.prog X.w) A (richCompare .NotEq u v) (fun r s' => r = .bool false ∧ LoopI X pins σ H s') X.xe s
variable {X : Cx} {n : Nat} {D : Eqv}
theorem ncG_tup (mon : Mon D) (eq : EqG X n D) : NcG X (n + 1) (DTup X.K D) := fun A pins s σ H x y u v sb I rx ry d => by
  obtain ⟨a, b, vs, ws, rfl, rfl, qa, qb, pr⟩ := d
  cases rx with
  | refl => cases ry with
    | refl =>
      obtain ⟨us, ru, ⟨⟨c1, d1, o1, l1⟩, g1, hc1, k1, hd1⟩, _⟩ := I.tuple qa
      obtain ⟨ts, rt, ⟨⟨c2, d2, o2, l2⟩, g2, hc2, k2, hd2⟩, _⟩ := I.tuple qb
      dsimp only at hc1 hd1 hc2 hd2
      subst hc1; subst hd1; subst hc2; subst hd2
      have sz : us.toArray.size = ts.toArray.size := by
        have e1 := ru.length
        have e2 := rt.length
        have e3 := pr.1
        rw [List.size_toArray, List.size_toArray]
        omega
      refine wpAny_richCompare_same_room (op := .NotEq) ⟨_, g1, rfl⟩ ⟨_, g2, rfl⟩ F.slot_tuple_ne (GQ.call_here F.slot_tuple_ne ⟨_, g1, rfl⟩ F.entry_tuple_ne (F.args_tuple_ne_2 _ _) ?_) sb.room.units0
      refine tupNe (R := wants (fun z s' => z ≠ .notImplemented ∧ z = .bool false ∧ LoopI X pins σ H s') X.xe) (LoopI X pins σ H) sz (fun q mq s' li => ?_) (fun s' li => ⟨(fun z => nomatch z), rfl, li⟩) g1 g2 ⟨H, I, Ext.rfl'⟩
      obtain ⟨i, hi, e⟩ := List.getElem_of_mem mq
      rw [List.length_zip] at hi
      have i1 : i < us.toArray.size := by have : us.toArray.toList.length = us.toArray.size := Array.length_toList; omega
      have i2 : i < ts.toArray.size := by omega
      rw [List.getElem_zip] at e
      rw [← e]
      exact turnG mon eq sb pr ru rt i i1 i2 s' li
/-- x != y as an expression -/
def rNeG (D : Eqv) : R2 := fun x y H Q => D x y H ∧ ∀ H', Ext H H' → Q (.bl false) H'
theorem op_neG (h : NcG X n D) (hr : Room n X.A) : OpR X (compareOp .NotEq) (rNeG D) := fun pins s σ H x y v u Q I rx ry ⟨d, q⟩ => by
  show wpAny (model X.prog X.w) X.A (richCompare .NotEq v u) (EP X pins σ Q) X.xe s
  refine wpAny_mono (h X.A pins s σ H x y v u ⟨hr, rfl⟩ I rx ry d) (fun r s' ⟨e, H', J, x⟩ => ?_) fun _ _ z => z
  subst e
  exact ⟨.bl false, H', J, rfl, q H' x⟩
end
section
open PySem L2 DS PyProof.Rows
/-- xs != ys, tuples of the same trees -/
def vNeG (C : Addr) (ok : List (Str × Tr) → Prop) (k : Nat) : VR2
  | .tup ts, .tup us, n, Q => ts = us ∧ (∀ t ∈ ts, NiceG C ok k t) ∧ Q (.bl false) n
  | _, _, _, _ => False
theorem ov_neG {X : Cx} {Γ : Cn} {C : Addr} {ok : List (Str × Tr) → Prop} {m k : Nat} (hK : X.K = Γ.g.K) (hI : ∀ fs, ok fs → RcG X m (DT Γ.g (.ins C fs))) (hr : Room (m + k + 1) X.A) : OpR X (compareOp .NotEq) (lR Γ (vNeG C ok k)) := by
  intro pins s σ H x y v u Q' I rx ry ⟨n, F, tx, ty, Q, okk, fr, sb, r1, r2, q, kk⟩
  cases r1 with
  | tup e1 q1 => cases r2 with
    | tup e2 q2 =>
      obtain ⟨rfl, hn, q⟩ := q
      refine op_neG (D := DTup X.K (fun x y H => ∃ t, t ∈ _ ∧ DT Γ.g t x y H)) (ncG_tup (mon_ex fun _ => mon_DT) (eqG_ex fun t mt => eqG_tree hK hI (hn t mt))) hr pins s σ H _ _ v u Q' I rx ry ⟨⟨_, _, _, _, rfl, rfl, by rw [hK]; exact sqT_sub sb e1, by rw [hK]; exact sqT_sub sb e2, prs_reps sb (fun _ h => h) q1 q2⟩, fun H' e => ?_⟩
      exact kk _ _ n F H' (Fr.ofSame e) (sb.ofSame e) (.bl false) q
    | _ => exact q.elim
  | _ => exact q.elim
end
end VL
/-! list(zip(a, b)), a and b lists -/
namespace VZ
open PySem
/-- a zip of two lists that has given out the tuple at T -/
abbrev ZipF (h : Heap) (z TI TO : Addr) (f0 : Value) (f : Bool) : Prop := h.get? z = some ⟨.type "zip", none, .fields #[f0, .bool f, .bool false, .ref TI, .ref TO], #[]⟩
section
variable {prog : Program} {w : World} {A : Around} {E : Value → Shared → Prop} {s : Shared} {z TI TO i1 i2 l1 l2 T : Addr} {f : Bool} {j k : Nat} {xs ys : Array Value} {x y : Value} {oT : Obj}
/-- its own tuple is still held -/
theorem held {Q : Bool → Shared → Prop} (gz : ZipF s.heap z TI TO (rawInt T) f) (gT : s.heap.get? T = some oT) (q : ∀ h', ZipF h' z TI TO (rawInt T) true → Heap.SameBut z s.heap h' → Q false { s with heap := h' }) : wpAny (model prog w) A (Builtin.SmallTypes.ownedTupleIsFree (.ref z)) Q E s := by
  unfold Builtin.SmallTypes.ownedTupleIsFree
  refine wpAny_bind (wpAny_field gz rfl (x := rawInt T) rfl ?_)
  show wpAny _ _ (loadIfAlive ((T : Int).toNat) >>= _) _ _ _
  rw [Int.toNat_natCast]
  refine wpAny_bind (PySem.W.kdx_alive gT ?_)
  dsimp only [Option.isNone_some]
  refine wpAny_ite_split (fun z => by cases z) (fun _ => ?_)
  refine wpAny_bind (wpAny_field gz rfl (x := .bool f) rfl ?_)
  cases f with
  | true => exact wpAny_ite_split (fun z => by cases z) (fun _ => wpAny_pure (q s.heap gz (Heap.SameBut.refl _ _)))
  | false =>
    refine wpAny_ite_split (fun _ => ?_) (fun z => absurd rfl z)
    exact wpAny_bind (wpAny_setField_rec gz (by simp) fun h' g' sb => wpAny_pure (q h' g' sb))
theorem out_next {Q : Value → Shared → Prop} (D : ZipApart z TI TO i1 i2 l1 l2) (gz : ZipF s.heap z TI TO (rawInt T) f) (gI : IsPair s.heap TI (.ref i1) (.ref i2)) (gT : s.heap.get? T = some oT)
    (g1 : s.heap.IsListIter i1 l1 j) (g2 : s.heap.IsListIter i2 l2 k) (p1 : s.heap.IsList l1 xs) (p2 : s.heap.IsList l2 ys) (hx : xs[j]? = some x) (hy : ys[k]? = some y)
    (q : ∀ h', ZipF h' z TI TO (rawInt T) true → h'.IsListIter i1 l1 (j + 1) → h'.IsListIter i2 l2 (k + 1) → IsPair h' s.heap.objs.size x y → h'.objs.size = s.heap.objs.size + 1 → (∀ c o, c ≠ z → c ≠ i1 → c ≠ i2 → s.heap.get? c = some o → h'.get? c = some o) → Q (.ref s.heap.objs.size) { s with heap := h' }) :
    wpAny (model prog w) A (Builtin.«zip.__next__» ⟨[.ref z], []⟩) (fun fin s' => ∃ v, fin = .done (.ret v) ∧ Q v s') E s := by
  show wpAny _ _ (field (.ref z) 2 >>= _) _ _ _
  refine wpAny_bind (wpAny_field gz rfl (x := .bool false) rfl ?_)
  show wpAny _ _ (field (.ref z) 3 >>= _) _ _ _
  refine wpAny_bind (wpAny_field gz rfl (x := .ref TI) rfl (wpAny_bind (wpAny_seqItems gI rfl ?_)))
  refine wpAny_bind (held gz gT fun ha za sa => ?_)
  refine wpAny_ite_split (fun z => by cases z) (fun _ => ?_)
  dsimp only
  refine wpAny_bind ?_
  rw [show (#[Value.ref i1, Value.ref i2] : Array Value) = [Value.ref i1, Value.ref i2].toArray from rfl, List.forIn_toArray]
  simp only [List.forIn_cons, List.forIn_nil]
  refine wpAny_bind (wpAny_bind (wpAny_holding ?_))
  show wpAny _ _ (Builtin.SmallTypes.nextOf (.ref i1) >>= _) _ _ _
  refine wpAny_bind (wpAny_nextOf_list_item (g1.extBut sa.extBut D.i1z) (p1.extBut sa.extBut D.l1z) hx fun hb b1 sb => wpAny_pure (wpAny_pure ?_))
  refine wpAny_bind (wpAny_bind (wpAny_holding ?_))
  show wpAny _ _ (Builtin.SmallTypes.nextOf (.ref i2) >>= _) _ _ _
  refine wpAny_bind (wpAny_nextOf_list_item ((g2.extBut sa.extBut D.i2z).extBut sb.extBut D.i12.symm) ((p2.extBut sa.extBut D.l2z).extBut sb.extBut D.l2i1) hy fun hc c2 sc => wpAny_pure (wpAny_pure (wpAny_pure ?_)))
  dsimp only
  refine wpAny_bind (wpAny_newTuple (wpAny_pure ⟨_, rfl, ?_⟩) (show 2 ≤ sizeLine by decide))
  have sz : hc.objs.size = s.heap.objs.size := by rw [sc.1, sb.1, sa.1]
  have zc : ZipF hc z TI TO (rawInt T) true := sc.extBut _ _ D.i2z.symm (sb.extBut _ _ D.i1z.symm za)
  have zl : z < hc.objs.size := Heap.lt_size zc
  have up : ∀ {c o}, hc.get? c = some o → (hc.push ⟨.type "tuple", none, .seq #[x, y], #[]⟩).get? c = some o := fun e => Heap.get?_push_of_some _ e
  have key := q (hc.push ⟨.type "tuple", none, .seq #[x, y], #[]⟩) (up zc) ((b1.extBut sc.extBut D.i12).at fun o e => up e) (c2.at fun o e => up e) (by rw [← sz]; exact Heap.get?_push_size _ rfl) (by rw [Heap.size_push, sz])
    fun c o n1 n2 n3 e => up (sc.extBut _ _ n3 (sb.extBut _ _ n2 (sa.extBut _ _ n1 e)))
  rw [← sz] at key
  exact key
theorem out_stop {Q : PySem.Fin → Shared → Prop} (hh : A.handled = none) (D : ZipApart z TI TO i1 i2 l1 l2) (gz : ZipF s.heap z TI TO (rawInt T) f) (gI : IsPair s.heap TI (.ref i1) (.ref i2)) (gT : s.heap.get? T = some oT)
    (g1 : s.heap.IsListIter i1 l1 j) (g2 : s.heap.IsListIter i2 l2 k) (p1 : s.heap.IsList l1 xs) (p2 : s.heap.IsList l2 ys) (he : xs[j]? = none ∨ ys[k]? = none)
    (q : ∀ h' e, (∀ c o, c ≠ z → c ≠ i1 → c ≠ i2 → s.heap.get? c = some o → h'.get? c = some o) → (∃ o, h'.get? e = some o ∧ o.cls = .type "StopIteration") → E (.ref e) { s with heap := h' }) :
    wpAny (model prog w) A (Builtin.«zip.__next__» ⟨[.ref z], []⟩) Q E s := by
  show wpAny _ _ (field (.ref z) 2 >>= _) _ _ _
  refine wpAny_bind (wpAny_field gz rfl (x := .bool false) rfl ?_)
  show wpAny _ _ (field (.ref z) 3 >>= _) _ _ _
  refine wpAny_bind (wpAny_field gz rfl (x := .ref TI) rfl (wpAny_bind (wpAny_seqItems gI rfl ?_)))
  refine wpAny_bind (held gz gT fun ha za sa => ?_)
  refine wpAny_ite_split (fun z => by cases z) (fun _ => ?_)
  dsimp only
  refine wpAny_bind ?_
  rw [show (#[Value.ref i1, Value.ref i2] : Array Value) = [Value.ref i1, Value.ref i2].toArray from rfl, List.forIn_toArray]
  simp only [List.forIn_cons, List.forIn_nil]
  refine wpAny_bind (wpAny_bind (wpAny_holding ?_))
  show wpAny _ _ (Builtin.SmallTypes.nextOf (.ref i1) >>= _) _ _ _
  have q1 := g1.extBut sa.extBut D.i1z
  have r1 := p1.extBut sa.extBut D.l1z
  have q2 := g2.extBut sa.extBut D.i2z
  have r2 := p2.extBut sa.extBut D.l2z
  cases hx : xs[j]? with
  | none => exact wpAny_bind (wpAny_nextOf_list_end hh q1 r1 hx fun hb e sb hs => q hb e (fun c o n1 n2 n3 g => sb _ _ n2 (sa.extBut _ _ n1 g)) hs)
  | some x =>
    have hy : ys[k]? = none := he.resolve_left (by rw [hx]; intro z; cases z)
    refine wpAny_bind (wpAny_nextOf_list_item q1 r1 hx fun hb b1 sb => wpAny_pure (wpAny_pure ?_))
    refine wpAny_bind (wpAny_bind (wpAny_holding ?_))
    show wpAny _ _ (Builtin.SmallTypes.nextOf (.ref i2) >>= _) _ _ _
    exact wpAny_bind (wpAny_nextOf_list_end hh (q2.extBut sb.extBut D.i12.symm) (r2.extBut sb.extBut D.l2i1) hy fun hc e sc hs => q hc e (fun c o n1 n2 n3 g => sc _ _ n3 (sb.extBut _ _ n2 (sa.extBut _ _ n1 g))) hs)
end
/-- a zip in use -/
structure Zst (h : Heap) (z TI TO i1 i2 l1 l2 S : Addr) (xs ys : Array Value) (k : Nat) : Prop where
  zip : (IsZip h z TI TO .none ∧ ∃ a b, IsPair h TO a b) ∨ ∃ (T : Addr) (f : Bool) (oT : Obj), ZipF h z TI TO (rawInt T) f ∧ h.get? T = some oT ∧ T ≠ z ∧ T ≠ i1 ∧ T ≠ i2 ∧ T ≠ TO ∧ T ≠ S
  its : IsPair h TI (.ref i1) (.ref i2)
  it1 : h.IsListIter i1 l1 k
  it2 : h.IsListIter i2 l2 k
  ls1 : h.IsList l1 xs
  ls2 : h.IsList l2 ys
section
variable {prog : Program} {w : World} {A : Around} {E : Value → Shared → Prop} {s : Shared} {z TI TO i1 i2 l1 l2 S : Addr} {k : Nat} {xs ys : Array Value} {x y : Value}
theorem Zst.next (D : ZipApart z TI TO i1 i2 l1 l2) (hS : S < s.heap.objs.size) (g : Zst s.heap z TI TO i1 i2 l1 l2 S xs ys k) (hx : xs[k]? = some x) (hy : ys[k]? = some y) {Q : Option Value → Shared → Prop}
    (q : ∀ h', Zst h' z TI TO i1 i2 l1 l2 S xs ys (k + 1) → IsPair h' s.heap.objs.size x y → h'.objs.size = s.heap.objs.size + 1 → (∀ c o, c ≠ z → c ≠ TO → c ≠ i1 → c ≠ i2 → s.heap.get? c = some o → h'.get? c = some o) → Q (some (.ref s.heap.objs.size)) { s with heap := h' }) :
    wpAny (model prog w) A (pyNext (.ref z)) Q E s := by
  obtain ⟨i1o, e1, _⟩ := id g.it1
  obtain ⟨i2o, e2, _⟩ := id g.it2
  have l1 := Heap.lt_size e1
  have l2 := Heap.lt_size e2
  rcases g.zip with ⟨gz, a, b, gO⟩ | ⟨T, f, oT, gz, gT, t1, t2, t3, t4, t5⟩
  · have lz : z < s.heap.objs.size := Heap.lt_size gz
    have lO : TO < s.heap.objs.size := Heap.lt_size gO
    exact wpAny_pyNext_zip_item D gz g.its gO g.it1 g.it2 g.ls1 g.ls2 hx hy fun h' a1 a2 a3 a4 a5 a6 a7 => q h'
      ⟨.inr ⟨_, _, _, a1, a5, Nat.ne_of_gt lz, Nat.ne_of_gt l1, Nat.ne_of_gt l2, Nat.ne_of_gt lO, Nat.ne_of_gt hS⟩, a7 _ _ D.TIz D.TITO D.TIi1 D.TIi2 g.its, a3, a4, g.ls1.at fun o e => a7 _ o D.l1z D.l1TO D.l1i1 D.l1i2 e, g.ls2.at fun o e => a7 _ o D.l2z D.l2TO D.l2i1 D.l2i2 e⟩ a5 a6 a7
  · have tt : s.TypeIs (.ref z) "zip" := ⟨_, gz, rfl⟩
    unfold pyNext
    refine wpAny_bind (wpAny_attempt (wpAny_callSpecial?_slot (name := Str.ofString "__next__") tt F.slot_zip_next (wpAny_call_entry F.slot_zip_next tt F.entry_zip_next ?_ (F.args_zip_next_1 _))))
    refine out_next D gz g.its gT g.it1 g.it2 g.ls1 g.ls2 hx hy fun h' a1 a3 a4 a5 a6 a7 => wpAny_pure ?_
    exact q h' ⟨.inr ⟨T, true, oT, a1, a7 _ _ t1 t2 t3 gT, t1, t2, t3, t4, t5⟩, a7 _ _ D.TIz D.TIi1 D.TIi2 g.its, a3, a4, g.ls1.at fun o e => a7 _ o D.l1z D.l1i1 D.l1i2 e, g.ls2.at fun o e => a7 _ o D.l2z D.l2i1 D.l2i2 e⟩ a5 a6 fun c o n1 _ n3 n4 e => a7 c o n1 n3 n4 e
theorem Zst.stop (hh : A.handled = none) (D : ZipApart z TI TO i1 i2 l1 l2) (g : Zst s.heap z TI TO i1 i2 l1 l2 S xs ys k) (he : xs[k]? = none ∨ ys[k]? = none) {Q : Option Value → Shared → Prop}
    (q : ∀ h', (∀ c o, c ≠ z → c ≠ TO → c ≠ i1 → c ≠ i2 → s.heap.get? c = some o → h'.get? c = some o) → Q none { s with heap := h' }) : wpAny (model prog w) A (pyNext (.ref z)) Q E s := by
  rcases g.zip with ⟨gz, a, b, gO⟩ | ⟨T, f, oT, gz, gT, t1, t2, t3, t4, t5⟩
  · exact wpAny_pyNext_zip_end hh D gz g.its gO g.it1 g.it2 g.ls1 g.ls2 he q
  · have tt : s.TypeIs (.ref z) "zip" := ⟨_, gz, rfl⟩
    unfold pyNext
    refine wpAny_bind (wpAny_attempt (wpAny_callSpecial?_slot (name := Str.ofString "__next__") tt F.slot_zip_next (wpAny_call_entry F.slot_zip_next tt F.entry_zip_next ?_ (F.args_zip_next_1 _))))
    refine out_stop (A := A.in1) hh D gz g.its gT g.it1 g.it2 g.ls1 g.ls2 he fun h' e a7 hs => ?_
    obtain ⟨o, ho, hc⟩ := hs
    exact wpAny_bind (wpAny_isInstance (T := "StopIteration") (b := true) ⟨o, ho, hc⟩ isSubtype_stop (wpAny_pure (q h' fun c o n1 _ n3 n4 e => a7 c o n1 n3 n4 e)))
/-- it is left alone -/
theorem Zst.stay {h h' : Heap} (g : Zst h z TI TO i1 i2 l1 l2 S xs ys k) (n : z ≠ S ∧ TI ≠ S ∧ TO ≠ S ∧ i1 ≠ S ∧ i2 ≠ S ∧ l1 ≠ S ∧ l2 ≠ S) (up : ∀ c o, c ≠ S → h.get? c = some o → h'.get? c = some o) : Zst h' z TI TO i1 i2 l1 l2 S xs ys k := by
  obtain ⟨n1, n2, n3, n4, n5, n6, n7⟩ := n
  refine ⟨?_, up _ _ n2 g.its, g.it1.at fun o e => up _ o n4 e, g.it2.at fun o e => up _ o n5 e, g.ls1.at fun o e => up _ o n6 e, g.ls2.at fun o e => up _ o n7 e⟩
  rcases g.zip with ⟨gz, a, b, gO⟩ | ⟨T, f, oT, gz, gT, t1, t2, t3, t4, t5⟩
  · exact .inl ⟨up _ _ n1 gz, a, b, up _ _ n3 gO⟩
  · exact .inr ⟨T, f, oT, up _ _ n1 gz, up _ _ t5 gT, t1, t2, t3, t4, t5⟩
end
/-- the tuples that were made -/
structure Made (h : Heap) (lo : Addr) (as : List Addr) (xs ys : Array Value) : Prop where
  up : as.Pairwise (· < ·)
  lo : ∀ a ∈ as, lo < a
  at_ : ∀ (j : Nat) (a : Addr), as[j]? = some a → ∃ x y, xs[j]? = some x ∧ ys[j]? = some y ∧ IsPair h a x y
theorem Made.more {h h' : Heap} {lo N : Addr} {as : List Addr} {xs ys : Array Value} {x y : Value} (m : Made h lo as xs ys) (hN : ∀ a ∈ as, a < N) (hl : lo < N) (keep : ∀ a o, a ∈ as → h.get? a = some o → h'.get? a = some o) (hx : xs[as.length]? = some x) (hy : ys[as.length]? = some y) (new : IsPair h' N x y) : Made h' lo (as ++ [N]) xs ys := by
  refine ⟨List.pairwise_append.mpr ⟨m.up, List.pairwise_singleton _ _, fun a ha b hb => by rw [List.mem_singleton.mp hb]; exact hN a ha⟩, fun a ha => ?_, fun j a ha => ?_⟩
  · rcases List.mem_append.mp ha with ha | ha
    · exact m.lo a ha
    · rw [List.mem_singleton.mp ha]; exact hl
  · by_cases hj : j < as.length
    · rw [List.getElem?_append_left hj] at ha
      obtain ⟨u, v, e1, e2, e3⟩ := m.at_ j a ha
      exact ⟨u, v, e1, e2, keep a _ (List.mem_of_getElem? ha) e3⟩
    · by_cases hj2 : j = as.length
      · subst hj2
        rw [List.getElem?_concat_length] at ha
        cases ha
        exact ⟨x, y, hx, hy, new⟩
      · rw [List.getElem?_eq_none (by rw [List.length_append, List.length_singleton]; omega)] at ha
        cases ha
theorem Made.below {h : Heap} {lo : Addr} {as : List Addr} {xs ys : Array Value} (m : Made h lo as xs ys) : ∀ a ∈ as, a < h.objs.size := fun a ha => by
  obtain ⟨j, hj⟩ := List.mem_iff_getElem?.mp ha
  obtain ⟨_, _, _, _, e⟩ := m.at_ j a hj
  exact Heap.lt_size e
section
variable {prog : Program} {w : World} {A : Around} {s : Shared} {R : Result → Shared → Prop} {z TI TO i1 i2 l1 l2 S lo : Addr} {xs ys : Array Value}
/-- the list is filled from the zip -/
theorem fill (hh : A.handled = none) (D : ZipApart z TI TO i1 i2 l1 l2) (nS : z ≠ S ∧ TI ≠ S ∧ TO ≠ S ∧ i1 ≠ S ∧ i2 ≠ S ∧ l1 ≠ S ∧ l2 ≠ S) (below : z < lo ∧ TO < lo ∧ i1 < lo ∧ i2 < lo ∧ S ≤ lo) (hn : min xs.size ys.size ≤ sizeLine) (res : Value) {g0 : Heap}
    (q : ∀ h' tk acc c as, (∀ b o, b ≠ S → b ≠ z → b ≠ TO → b ≠ i1 → b ≠ i2 → g0.get? b = some o → h'.get? b = some o) → h'.get? S = some ⟨.type "list", none, .seq acc c, #[]⟩ → as.length = min xs.size ys.size → Made h' lo as xs ys → acc.toList = as.map Value.ref → R (.ok (.ret res)) { s with heap := h', toks := tk }) :
    ∀ (m : Nat) (h : Heap) (tk c : Nat) (acc : Array Value) (as : List Addr), m + as.length = min xs.size ys.size → Zst h z TI TO i1 i2 l1 l2 S xs ys as.length → (∀ b o, b ≠ S → b ≠ z → b ≠ TO → b ≠ i1 → b ≠ i2 → g0.get? b = some o → h.get? b = some o) →
      h.get? S = some ⟨.type "list", none, .seq acc c, #[]⟩ → acc.toList = as.map Value.ref → Made h lo as xs ys → lo < h.objs.size → codeAny (model prog w) A (.builtin "list.extend.loop" ⟨[.ref S, .ref z, res], []⟩) R { s with heap := h, toks := tk } := by
  obtain ⟨b1, b2, b3, b4, b5⟩ := below
  intro m
  induction m with
  | zero =>
    intro h tk c acc as hm zs keep gS ea md hlo
    refine codeAny_builtin F.entry_extend_loop ?_
    rw [Around.under_plainId F.plain_extend_loop _]
    show wpAny _ A.in1 (pyNext (.ref z) >>= _) _ _ _
    have he : xs[as.length]? = none ∨ ys[as.length]? = none := by
      rcases Nat.le_total xs.size ys.size with hle | hle
      · exact .inl (Array.getElem?_eq_none (by omega))
      · exact .inr (Array.getElem?_eq_none (by omega))
    refine wpAny_bind (Zst.stop (s := { s with heap := h, toks := tk }) (A := A.in1) hh D zs he fun h' k' => wpAny_pure (q h' tk acc c as (fun b o n1 n2 n3 n4 n5 e => k' b o n2 n3 n4 n5 (keep b o n1 n2 n3 n4 n5 e)) (k' _ _ nS.1.symm nS.2.2.1.symm nS.2.2.2.1.symm nS.2.2.2.2.1.symm gS) (by omega) ⟨md.up, md.lo, fun j a ha => ?_⟩ ea))
    obtain ⟨u, v, e1, e2, e3⟩ := md.at_ j a ha
    have := md.lo a (List.mem_of_getElem? ha)
    exact ⟨u, v, e1, e2, k' _ _ (Nat.ne_of_gt (Nat.lt_trans b1 this)) (Nat.ne_of_gt (Nat.lt_trans b2 this)) (Nat.ne_of_gt (Nat.lt_trans b3 this)) (Nat.ne_of_gt (Nat.lt_trans b4 this)) e3⟩
  | succ m ih =>
    intro h tk c acc as hm zs keep gS ea md hlo
    have hx : xs[as.length]? = some xs[as.length] := Array.getElem?_eq_getElem (by omega)
    have hy : ys[as.length]? = some ys[as.length] := Array.getElem?_eq_getElem (by omega)
    refine codeAny_builtin F.entry_extend_loop ?_
    rw [Around.under_plainId F.plain_extend_loop _]
    show wpAny _ A.in1 (pyNext (.ref z) >>= _) _ _ _
    refine wpAny_bind (Zst.next (s := { s with heap := h, toks := tk }) D (Nat.lt_of_le_of_lt b5 hlo) zs hx hy fun h' zs' new sz k' => ?_)
    dsimp only at new sz k' ⊢
    have gS' := k' _ _ nS.1.symm nS.2.2.1.symm nS.2.2.2.1.symm nS.2.2.2.2.1.symm gS
    have hSl : S < h.objs.size := Nat.lt_of_le_of_lt b5 hlo
    have up : ∀ b o, b ≠ S → h'.get? b = some o → (h'.update S (Obj.mapSeq (·.push (Value.ref h.objs.size)))).get? b = some o := fun b o n e => (Heap.get?_update_other _ _ n.symm).trans e
    have len : acc.size = as.length := by rw [← Array.length_toList, ea, List.length_map]
    show wpAny _ A.in1 (updateSeq S (·.push (Value.ref h.objs.size)) >>= _) _ _ _
    have step := ih (h'.update S (Obj.mapSeq (·.push (Value.ref h.objs.size)))) tk (Obj.mapSeq (·.push (Value.ref h.objs.size)) ⟨.type "list", none, .seq acc c, #[]⟩ |>.data |> fun d => match d with | .seq _ n => n | _ => 0) (acc.push (Value.ref h.objs.size)) (as ++ [h.objs.size]) (by rw [List.length_append, List.length_singleton]; omega)
      (by rw [List.length_append, List.length_singleton]; exact zs'.stay nS up) (fun b o n1 n2 n3 n4 n5 e => up b o n1 (k' b o n2 n3 n4 n5 (keep b o n1 n2 n3 n4 n5 e))) (Heap.get?_update_self _ gS' rfl) (by rw [Array.toList_push, ea, List.map_append]; rfl)
      (md.more md.below hlo (fun a o ma e => by
        have := md.lo a ma
        exact up a o (Nat.ne_of_gt (Nat.lt_of_le_of_lt b5 this)) (k' _ _ (Nat.ne_of_gt (Nat.lt_trans b1 this)) (Nat.ne_of_gt (Nat.lt_trans b2 this)) (Nat.ne_of_gt (Nat.lt_trans b3 this)) (Nat.ne_of_gt (Nat.lt_trans b4 this)) e)) hx hy (up _ _ (Nat.ne_of_gt hSl) new)) (Nat.lt_trans hlo (Heap.lt_size (up _ _ (Nat.ne_of_gt hSl) new)))
    refine wpAny_bind (wpAny_updateSeq gS' rfl (wpAny_pure ⟨plainId_quiet F.plain_extend_loop _, step⟩) ?_)
    rw [len]; omega
end
theorem zip_len : typeLookup (.type "zip") "__len__" = pure none := by rw [typeLookup_type, builtinLookup_eq_fast]; kernel_rfl
theorem zip_hint : typeLookup (.type "zip") "__length_hint__" = pure none := by rw [typeLookup_type, builtinLookup_eq_fast]; kernel_rfl
section
variable {prog : Program} {w : World} {A : Around} {E : Value → Shared → Prop} {s : Shared} {R : Result → Shared → Prop} {z TI TO i1 i2 l1 l2 S : Addr} {xs ys : Array Value}
theorem Zst.isZip {h : Heap} {k : Nat} (g : Zst h z TI TO i1 i2 l1 l2 S xs ys k) : ∃ o, h.get? z = some o ∧ o.cls = .type "zip" := by
  rcases g.zip with ⟨gz, _⟩ | ⟨T, f, oT, gz, _⟩
  · exact ⟨_, gz, rfl⟩
  · exact ⟨_, gz, rfl⟩
/-- list.__init__ of a new list, from a new zip -/
theorem begin_ (hh : A.handled = none) (D : ZipApart z TI TO i1 i2 l1 l2) (nS : z ≠ S ∧ TI ≠ S ∧ TO ≠ S ∧ i1 ≠ S ∧ i2 ≠ S ∧ l1 ≠ S ∧ l2 ≠ S) (hn : min xs.size ys.size ≤ sizeLine) (below : z < S ∧ TO < S ∧ i1 < S ∧ i2 < S)
    (g : Zst s.heap z TI TO i1 i2 l1 l2 S xs ys 0) (f0 : IsZip s.heap z TI TO .none) (gS : s.heap.get? S = some ⟨.type "list", none, .seq #[] 0, #[]⟩)
    (q : ∀ h' tk acc c as, (∀ b o, b ≠ S → b ≠ z → b ≠ TO → b ≠ i1 → b ≠ i2 → s.heap.get? b = some o → h'.get? b = some o) → h'.get? S = some ⟨.type "list", none, .seq acc c, #[]⟩ → as.length = min xs.size ys.size → Made h' S as xs ys → acc.toList = as.map Value.ref → R (.ok (.ret .none)) { s with heap := h', toks := tk }) :
    wpAny (model prog w) A.in1 (Builtin.«list.__init__» ⟨[.ref S, .ref z], []⟩) (fun fin s' => match fin with | .done f => R (.ok f) s' | .again c' => c'.quiet = true ∧ codeAny (model prog w) A c' R s') (fun e s' => R (.error e) s') s := by
  obtain ⟨b1, b2, b3, b4⟩ := below
  have off : ∀ {h : Heap} {u : Array Value → Array Value} {b : Addr} {o : Obj}, b ≠ S → h.get? b = some o → (h.update S (Obj.mapSeq u)).get? b = some o := fun n e => (Heap.get?_update_other _ _ n.symm).trans e
  have go : ∀ (h : Heap) (c : Nat), (∀ b o, b ≠ S → s.heap.get? b = some o → h.get? b = some o) → S < h.objs.size → h.get? S = some ⟨.type "list", none, .seq #[] c, #[]⟩ → codeAny (model prog w) A (.builtin "list.extend.loop" ⟨[.ref S, .ref z, .none], []⟩) R { s with heap := h } := fun h c up hl gS' =>
    fill (s := s) hh D nS ⟨b1, b2, b3, b4, Nat.le_refl S⟩ hn .none (g0 := s.heap) q (min xs.size ys.size) h s.toks c #[] [] (Nat.add_zero _) (g.stay nS up) (fun b o n1 _ _ _ _ e => up b o n1 e) gS' rfl ⟨List.Pairwise.nil, (fun _ m => nomatch m), (fun j a e => by simp at e)⟩ hl
  show wpAny _ A.in1 (do let old ← Builtin.List.listItems (.ref S); Builtin.List.listUpdate (.ref S) (fun _ => #[]); letGo old.toList.reverse; Builtin.List.listExtendWith (.ref S) (.ref z) .none) _ _ s
  refine wpAny_bind ?_
  unfold Builtin.List.listItems
  refine wpAny_bind (wpAny_seqItems gS rfl (wpAny_pure ?_))
  refine wpAny_bind ?_
  show wpAny _ A.in1 (updateSeq S fun _ => #[]) _ _ s
  refine wpAny_updateSeq gS rfl ?_
  have u1 := Heap.get?_update_self (Obj.mapSeq (fun _ => (#[] : Array Value))) gS rfl
  have z1 : (s.heap.update S (Obj.mapSeq fun _ => #[])).get? z = some _ := off nS.1 f0
  refine wpAny_bind (wpAny_letGo ?_)
  unfold Builtin.List.listExtendWith
  refine wpAny_bind (wpAny_typeOf (T := "zip") ⟨_, z1, rfl⟩ ?_)
  have k1 : Builtin.List.listSameRef (.ref S) (.ref z) = false := by simp [Builtin.List.listSameRef, nS.1.symm]
  have k2 : (Value.type "zip" == Value.type "list") = false := by decide
  have k3 : (Value.type "zip" == Value.type "tuple") = false := by decide
  simp only [k1, k2, k3, Bool.or_false, Bool.false_eq_true, if_false]
  refine wpAny_bind (wpAny_pyIter_zip (s := { s with heap := s.heap.update S (Obj.mapSeq fun _ => #[]) }) z1 ?_)
  refine wpAny_bind (wpAny_holding ?_)
  unfold Builtin.List.listLengthHint
  refine wpAny_bind (wpAny_specialOf (T := "zip") ⟨_, z1, rfl⟩ zip_len ?_)
  show wpAny _ A.in1 (specialOf (Value.ref z) (Str.ofString "__length_hint__") >>= _) _ _ _
  refine wpAny_bind (wpAny_specialOf (T := "zip") ⟨_, z1, rfl⟩ zip_hint (wpAny_pure ?_))
  refine wpAny_ite_split (fun _ => ?_) (fun n => absurd rfl n)
  refine wpAny_bind (wpAny_rule (wpAny_bind ?_))
  show wpAny _ A.in1 (updateSeq S (·.push .none) >>= fun _ => updateSeq S (·.pop)) _ _ _
  refine wpAny_bind (wpAny_updateSeq u1 rfl ?_)
  have u2 := Heap.get?_update_self (Obj.mapSeq (·.push Value.none)) u1 rfl
  refine wpAny_updateSeq (hz := by seq_fits) u2 rfl ?_
  have u3 := Heap.get?_update_self (Obj.mapSeq (·.pop)) u2 rfl
  exact wpAny_pure ⟨plainId_quiet F.plain_extend_loop _, go _ _ (fun b o n e => off n (off n (off n e))) (Heap.lt_size u3) u3⟩
end
section
variable {prog : Program} {w : World} {A : Around} {E : Value → Shared → Prop} {s : Shared} {l1 l2 : Addr} {xs ys : Array Value}
/-- list(zip(a, b)) -/
theorem call_listZip {Q : Value → Shared → Prop} (hh : A.handled = none) (p1 : s.heap.IsList l1 xs) (p2 : s.heap.IsList l2 ys) (hn : min xs.size ys.size ≤ sizeLine)
    (q : ∀ h' tk S acc c as, (∀ b o, s.heap.get? b = some o → h'.get? b = some o) → s.heap.objs.size ≤ S → h'.get? S = some ⟨.type "list", none, .seq acc c, #[]⟩ → as.length = min xs.size ys.size → Made h' S as xs ys → acc.toList = as.map Value.ref → Q (.ref S) { s with heap := h', toks := tk }) :
    wpAny (model prog w) A (call (.type "zip") [.ref l1, .ref l2]) (fun v s1 => wpAny (model prog w) A (call (.type "list") [v]) Q E s1) E s := by
  refine call_zip_2 p1 p2 fun h1 gz gI gO g1 g2 hsz up => ?_
  obtain ⟨o1, e1, _⟩ := id p1
  obtain ⟨o2, e2, _⟩ := id p2
  have D := PySem.W.ktu_apart s.heap.objs.size l1 l2 (Heap.lt_size e1) (Heap.lt_size e2)
  have n1 := Heap.lt_size e1
  have n2 := Heap.lt_size e2
  generalize eN : s.heap.objs.size = N at *
  refine callType_codes (Q₁ := fun obj s₁ => obj = .ref h1.objs.size ∧ s₁ = { s with heap := h1.push ⟨.type "list", none, .seq #[] 0, #[]⟩ }) F.called_list (F.typeCall_list_1 _) F.entry_list_init (code_list_new _ ⟨rfl, rfl⟩) fun obj s₁ he => ?_
  obtain ⟨rfl, rfl⟩ := he
  have low : ∀ {a : Nat}, a < N + 5 → a < h1.objs.size := fun h => by rw [hsz]; exact h
  have zl : N + 4 < h1.objs.size := low (Nat.lt_succ_self _)
  have ol : N + 3 < h1.objs.size := Nat.lt_trans (Nat.lt_succ_self _) zl
  have il : N + 2 < h1.objs.size := Nat.lt_trans (Nat.lt_succ_self _) ol
  have bl : N + 1 < h1.objs.size := Nat.lt_trans (Nat.lt_succ_self _) il
  have al : N < h1.objs.size := Nat.lt_trans (Nat.lt_succ_self _) bl
  have gS : (h1.push ⟨.type "list", none, .seq #[] 0, #[]⟩).get? h1.objs.size = some ⟨.type "list", none, .seq #[] 0, #[]⟩ := Heap.get?_push_size _ rfl
  have pu : ∀ {c o}, h1.get? c = some o → (h1.push ⟨.type "list", none, .seq #[] 0, #[]⟩).get? c = some o := fun e => Heap.get?_push_of_some _ e
  refine ⟨⟨_, gS, rfl⟩, F.args_list_init_2 _ _, ?_⟩
  refine begin_ (s := { s with heap := h1.push ⟨.type "list", none, .seq #[] 0, #[]⟩ }) (A := A.in1) (xs := xs) (ys := ys) hh D ⟨Nat.ne_of_lt zl, Nat.ne_of_lt il, Nat.ne_of_lt ol, Nat.ne_of_lt al, Nat.ne_of_lt bl, Nat.ne_of_lt (Nat.lt_trans n1 al), Nat.ne_of_lt (Nat.lt_trans n2 al)⟩ hn ⟨zl, ol, al, bl⟩
    ⟨.inl ⟨pu gz, _, _, pu gO⟩, pu gI, g1.at fun o e => pu e, g2.at fun o e => pu e, (p1.at fun o e => up _ o e).at fun o e => pu e, (p2.at fun o e => up _ o e).at fun o e => pu e⟩ (pu gz) gS (fun h' tk acc c as keep gS' hl md ea => ?_)
  refine ⟨rfl, q h' tk _ acc c as (fun b o e => ?_) (Nat.le_of_lt al) gS' hl md ea⟩
  have hb : b < N := by rw [← eN]; exact Heap.lt_size e
  have far : ∀ {i : Nat}, b ≠ N + i := fun {i} => Nat.ne_of_lt (Nat.lt_of_lt_of_le hb (Nat.le_add_right _ _))
  exact keep b o (Nat.ne_of_lt (Nat.lt_trans hb al)) far far (Nat.ne_of_lt hb) far (pu (up _ _ e))
end
/-! ### in the tracked heap -/
section
open L2 PyProof.Rows
def lay (H : Hp) (S : Addr) (as : List Addr) (ps : List (V × V)) : Hp := fun b => if b = S then some (.lst (as.map V.ref)) else match (as.zip ps).lookup b with
  | some p => some (.tup [p.1, p.2])
  | none => H b
theorem look_zip : ∀ {as : List Addr} {ps : List (V × V)} {j : Nat} {a : Addr} {p : V × V}, as.Nodup → as[j]? = some a → ps[j]? = some p → (as.zip ps).lookup a = some p
  | a :: as, p :: ps, 0, _, _, _, h1, h2 => by cases h1; cases h2; simp
  | a :: as, q :: ps, j + 1, b, p, nd, h1, h2 => by
    have nd' := List.nodup_cons.mp nd
    have ne : b ≠ a := fun z => nd'.1 (z ▸ List.mem_of_getElem? h1)
    rw [List.zip_cons_cons, List.lookup_cons, show (b == a) = false from beq_false_of_ne ne]
    exact look_zip nd'.2 (by simpa using h1) (by simpa using h2)
theorem look_off {as : List Addr} {ps : List (V × V)} {b : Addr} (h : b ∉ as) : (as.zip ps).lookup b = none := by
  induction as generalizing ps with
  | nil => rfl
  | cons a as ih =>
    cases ps with
    | nil => rfl
    | cons p ps =>
      rw [List.zip_cons_cons, List.lookup_cons, show (b == a) = false from beq_false_of_ne (fun z => h (by rw [z]; exact List.mem_cons_self))]
      exact ih fun m => h (List.mem_cons_of_mem _ m)
/-- what list(zip(..)) leaves -/
structure Zipped (H : Hp) (xs ys : List V) (H' : Hp) (p : Addr) (ts : List Addr) : Prop where
  same : ∀ b o, H b = some o → H' b = some o
  newL : H p = none
  newT : ∀ t ∈ ts, H t = none
  off : p ∉ ts
  nd : ts.Nodup
  lst : H' p = some (.lst (ts.map V.ref))
  len : ts.length = min xs.length ys.length
  tup : ∀ (j : Nat) (t : Addr), ts[j]? = some t → ∃ x y, xs[j]? = some x ∧ ys[j]? = some y ∧ H' t = some (.tup [x, y])
def rZipL (K : PySem.W.Frag) : List V → Hp → VK → Prop := fun vs H Q => ∃ (a b : Addr) (xs ys : List V), vs = [.ref a, .ref b] ∧ SqL K H a xs ∧ SqL K H b ys ∧ min xs.length ys.length ≤ sizeLine ∧ ∀ H' p ts, Zipped H xs ys H' p ts → Q (.ref p) H'
theorem refs_ok : ∀ as : List Addr, Vals (as.map V.ref) (as.map Value.ref)
  | [] => .nil
  | _ :: as => .cons rfl (refs_ok as)
section
variable {X : Cx} {pins : List (Addr × Obj)} {σ : L2.St} {H : Hp} {s : Shared} {h' : Heap} {tk S c : Nat} {xs ys : List V} {us ws : List Value} {acc : Array Value} {as : List Addr}
theorem laid (I : Inv X pins σ H s) (rx : Vals xs us) (ry : Vals ys ws) (hn : min xs.length ys.length ≤ sizeLine) (keep : ∀ b o, s.heap.get? b = some o → h'.get? b = some o) (hS : s.heap.objs.size ≤ S) (gS : h'.get? S = some ⟨.type "list", none, .seq acc c, #[]⟩) (hl : as.length = min us.toArray.size ws.toArray.size) (md : Made h' S as us.toArray ws.toArray) (ea : acc.toList = as.map Value.ref) :
    ∃ H', Zipped H xs ys H' S as ∧ Inv X pins σ H' { s with heap := h', toks := tk } := by
  have e1 := rx.length
  have e2 := ry.length
  rw [List.size_toArray, List.size_toArray] at hl
  have nd : as.Nodup := md.up.imp fun h => Nat.ne_of_lt h
  have offS : S ∉ as := fun m => Nat.lt_irrefl _ (md.lo _ m)
  have fS : H S = none := I.hok.fresh hS
  have fT : ∀ t ∈ as, H t = none := fun t m => I.hok.fresh (Nat.le_of_lt (Nat.lt_of_le_of_lt hS (md.lo t m)))
  have lS : lay H S as (xs.zip ys) S = some (.lst (as.map V.ref)) := if_pos rfl
  have lO : ∀ {b}, b ≠ S → b ∉ as → lay H S as (xs.zip ys) b = H b := fun n m => by unfold lay; rw [if_neg n, look_off m]
  have lT : ∀ (j : Nat) (t : Addr), as[j]? = some t → ∃ x y, xs[j]? = some x ∧ ys[j]? = some y ∧ lay H S as (xs.zip ys) t = some (.tup [x, y]) := fun j t ht => by
    have hj := (List.getElem?_eq_some_iff.mp ht).1
    have jx : j < xs.length := by omega
    have jy : j < ys.length := by omega
    refine ⟨xs[j], ys[j], List.getElem?_eq_getElem jx, List.getElem?_eq_getElem jy, ?_⟩
    unfold lay
    rw [if_neg (fun z : t = S => offS (by rw [← z]; exact List.mem_of_getElem? ht)), look_zip (p := (xs[j], ys[j])) nd ht (by rw [List.getElem?_zip_eq_some]; exact ⟨List.getElem?_eq_getElem jx, List.getElem?_eq_getElem jy⟩)]
  have same : ∀ b o, H b = some o → lay H S as (xs.zip ys) b = some o := fun b o e => by
    rw [lO (fun z => by rw [z, fS] at e; cases e) (fun m => by rw [fT b m] at e; cases e)]
    exact e
  have old : ∀ b o, s.heap.get? b = some o → b ≠ S ∧ b ∉ as := fun b o e => by
    have hb := Nat.lt_of_lt_of_le (Heap.lt_size e) hS
    exact ⟨Nat.ne_of_lt hb, fun m => Nat.lt_irrefl _ (Nat.lt_trans hb (md.lo b m))⟩
  refine ⟨lay H S as (xs.zip ys), ⟨same, fS, fT, offS, nd, lS, by omega, lT⟩, ?_⟩
  have un : Un (frs X.stack) [] H (lay H S as (xs.zip ys)) s.heap h' := by
    constructor
    · exact fun b o e _ _ _ => keep b o e
    · exact fun b o e _ _ _ => ⟨o.slots, keep b o e⟩
    · exact fun b o e n _ => by rw [lO (old b o e).1 (old b o e).2]; exact n
    · exact fun b o e _ => ⟨o, keep b o e⟩
    · exact fun b zs e => same b _ e
    · exact fun b o u e => same b _ e
    · exact fun b ps e => ⟨#[], by rw [same b _ e]; simp⟩
  refine Inv.call' (s' := { s with heap := h', toks := tk }) I rfl un (fun b u e => ?_) I.bare (fun b m => nomatch m)
  by_cases hb : b = S
  · subst hb
    rw [lS] at e
    cases e
    refine ⟨by rw [List.length_map]; omega, acc.toList, c, by rw [ea]; exact refs_ok as, ?_⟩
    rw [Array.toArray_toList]
    exact gS
  · by_cases hm : b ∈ as
    · obtain ⟨j, hj⟩ := List.mem_iff_getElem?.mp hm
      obtain ⟨x, y, f1, f2, f3⟩ := lT j b hj
      rw [f3] at e
      cases e
      obtain ⟨u, w', g1, g2, g3⟩ := md.at_ j b hj
      rw [List.getElem?_toArray] at g1 g2
      obtain ⟨u', q1, q2⟩ := rx.get f1
      obtain ⟨w2, q3, q4⟩ := ry.get f2
      rw [g1] at q1
      rw [g2] at q3
      cases q1
      cases q3
      exact ⟨by show 2 ≤ sizeLine; decide, [u, w'], .cons q2 (.cons q4 .nil), _, g3, rfl, _, rfl⟩
    · rw [lO hb hm] at e
      exact (I.hok b u e).stay (fun d v _ g => keep d v g) (fun d g => same d _ g) fun d zs g => same d _ g
end
def tZipL (K : PySem.W.Frag) (ta : TA) : TE := fun σ H Q => ta σ H fun vs H1 => rZipL K vs H1 Q
theorem pe_listZip {X : Cx} {a b : Expr} {ta : TA} {p p2 cpos pos : Pos} (hc : X.calm = true) (hg : Gl X "list") (hm : X.mg "list" = none) (gz : Gl X "zip") (mz : X.mg "zip" = none) (ha : PA X [a, b] ta)
    (hs : starEach [.Call (.Name "zip" p2) [a, b] [] cpos] X.env = (false, eval (.Call (.Name "zip" p2) [a, b] [] cpos) X.env) :: starEach [] X.env := by rfl)
    (hz : starEach [a, b] X.env = (false, eval a X.env) :: starEach [b] X.env := by rfl) (hpl : (backTo cpos (starEach [b] X.env)).any (·.1) = false := by rfl) :
    PE X (.Call (.Name "list" p) [.Call (.Name "zip" p2) [a, b] [] cpos] [] pos) (tZipL X.K ta) := by
  refine ⟨fun pins s σ H Q I h => ?_⟩
  refine wpAny_Call_Name_kw (ld_blt (u := .type "list") I hg hm (by decide +kernel) ?_)
  refine PyProof.Rows.callWith_type1 ?_ hs rfl
  rw [hs]
  show wpAny _ _ (spliced ((false, eval (.Call (.Name "zip" p2) [a, b] [] cpos) X.env) :: backTo pos (starEach [] X.env))) _ _ s
  refine Calls.spliced_cons ?_
  refine Call_ (ld_blt I gz mz PyProof.Rows.boot_zip (PyProof.Rows.callWith_type1 (thn (ha.run cpos pins s σ H _ I h) fun us s1 ⟨vs, H1, I1, r1, q1⟩ => ?_) hz hpl))
  obtain ⟨l, m, xs, ys, rfl, qx, qy, hn, q⟩ := q1
  cases r1 with
  | cons r rr => cases rr with
    | cons r' rr =>
      cases rr
      cases r
      cases r'
      obtain ⟨its, rv, p1, _⟩ := I1.list qx
      obtain ⟨jts, rw', p2, _⟩ := I1.list qy
      have e1 := rv.length
      have e2 := rw'.length
      refine wpAny_mono (call_listZip (Q := EP X pins σ Q) (I1.ok.hd hc) p1.isList p2.isList (by rw [List.size_toArray, List.size_toArray]; omega) fun h' tk S acc c as keep hS gS hl md ea => ?_) (fun v s2 hv => Calls.spliced_nil hv) fun _ _ z => z
      obtain ⟨H', zp, J⟩ := laid (tk := tk) I1 rv rw' hn keep hS gS hl md ea
      exact ⟨.ref S, H', J, rfl, q H' S as zp⟩
end
end VZ
/-! a set made by a comprehension, of whole numbers -/
namespace VS
open PySem L2 PySem.Spec PyProof.Rows
abbrev Nev : Value → Shared → Prop := fun _ _ => False
/-- the block stands ahead of a turn -/
structure At (X : Cx) (σ : L2.St) (fp : List Addr) (tn : Nat → Heap → Prop) (i : Nat) (H : Hp) (s : Shared) : Prop where
  inv : Inv X [] σ H s
  tn : tn i s.heap
  out : ∀ b ∈ fp, H b = none
/-- a block's context: the iterator's objects are its own, nothing is pinned, nothing is raised -/
structure IsBlk (X : Cx) (fp : List Addr) : Prop where
  ex : X.ex = fp
  pn : X.pn = []
  xe : X.xe = Nev
  calm : X.calm = true
section
variable {X : Cx} {σ : L2.St} {fp : List Addr} {tn : Nat → Heap → Prop} {i : Nat} {H : Hp} {s : Shared} {tg elt : Expr} {ifs : List Expr} {J : It} {it : Addr} {g : TG} {tt : TT} {te : TE} {vs : List Nat}
theorem fpOk_of (b : IsBlk X fp) (I : Inv X [] σ H s) (o : ∀ b ∈ fp, H b = none) : ∀ c ∈ fp, FpOk X [] H c := fun c hc => by
  have hx : c ∈ X.ex := by rw [b.ex]; exact hc
  refine ⟨o c hc, (I.ok.exf c hx).1, I.ok.exfs c hx, .inl hx, (I.ok.exf c hx).2, fun p hp => ?_⟩
  rw [b.pn] at hp
  cases hp
theorem free_err {α : Type} {M : Model} {A : Around} {t : Sem α} {Q : α → Shared → Prop} {E E' : Value → Shared → Prop} (e : E = Nev) (h : wpAny M A t Q E s) : wpAny M A t Q E' s := wpAny_mono h (fun _ _ q => q) fun _ _ z => by rw [e] at z; exact z.elim
/-- what is wished of the element, and of a turn that is passed over -/
def Step (σ : L2.St) (vs : List Nat) (g : TG) (tt : TT) (te : TE) (x : V) (H : Hp) (Q5 : VK) (Q4 : Hp → Prop) : Prop := g x σ H fun σ2 H2 => L2.wipe σ2 vs = σ ∧ tt σ2 H2 fun b H3 => if b = true then te σ2 H3 Q5 else Q4 H3
/-- one turn up to the element -/
theorem one (b : IsBlk X fp) (T : Turn X.prog X.w X.K tg J fp it tn) (a : At X σ fp tn i H s) (go : J.go i H) (pg : PG X tg g) (pt : PTs X ifs tt) (pe : PE X elt te) {Q5 : VK} {Q4 : Hp → Prop} (step : ∀ x H', J.yld i H x H' → Step σ vs g tt te x H' Q5 Q4) :
    wpAny (model X.prog X.w) X.A (pyNext (.ref it)) (fun r s1 => ∃ v, r = some v ∧ wpAny (model X.prog X.w) X.A (letOwnedTupleGo tg (.ref it) v) (fun _ s2 => wpAny (model X.prog X.w) X.A (assign tg X.env v) (fun _ s3 =>
      wpAny (model X.prog X.w) X.A (forIn ifs true fun c r => if r = true then do let ok ← isTrue c X.env (eval c X.env); pure (ForInStep.yield ok) else pure (ForInStep.yield r)) (fun ok s4 =>
        if ok = true then wpAny (model X.prog X.w) X.A (eval elt X.env) (fun u s5 => ∃ (y : V) (H5 : Hp) (pl : List (Addr × Obj)) (τ : L2.St), RelV y u ∧ Q5 y H5 ∧ Inv X pl τ H5 s5 ∧ ∀ H6 s6, Inv X pl τ H6 s6 → At X σ fp tn (i + 1) H6 s6) Nev s4
        else ∃ H4, Q4 H4 ∧ At X σ fp tn (i + 1) H4 s4) Nev s3) Nev s2) Nev s1) Nev s := by
  refine wpAny_mono (T.item X rfl rfl rfl b.calm i [] s σ H Nev a.inv (fpOk_of b a.inv a.out) a.tn go) (fun r s1 ⟨u, hr, h1⟩ => ⟨u, hr, wpAny_mono h1 (fun _ s2 ⟨x, H2, I2, rx, hy, t2, o2⟩ => ?_) fun _ _ z => z⟩) fun _ _ z => z
  have P2 := I2.pinned (fpOk_of b I2 o2) (T.obj _ _ t2)
  generalize hpl : ([] ++ pinsAt fp s2.heap : List (Addr × Obj)) = pl at P2
  -- the end of the turn
  have close : ∀ {τ : L2.St} (e : L2.wipe τ vs = σ) (H6 : Hp) (s6 : Shared), Inv X pl τ H6 s6 → At X σ fp tn (i + 1) H6 s6 := fun {τ} e H6 s6 I6 => by
    subst hpl
    have still : ∀ c ∈ fp, ∀ o, s2.heap.get? c = some o → s6.heap.get? c = some o ∧ H6 c = none := fun c hc o g => by
      have := I6.pin (c, o) (List.mem_append_right _ (List.mem_append_right _ (mem_pinsAt hc g)))
      exact ⟨this.1, this.2.1⟩
    refine ⟨(I6.unpinned (pins := [])).weak (by rw [← e, wipe_length]) (fun j v g => ?_), T.keep _ _ _ t2 fun c hc o g => (still c hc o g).1, fun c hc => ?_⟩
    · rw [← e] at g
      exact (wipe_some g).1
    · obtain ⟨o, g, _⟩ := T.obj _ _ t2 c hc
      exact (still c hc o g).2
  refine free_err b.xe (thn (pg.run pl s2 σ H2 x u _ P2 rx (step x H2 hy)) fun _ s3 ⟨τ, H3, I3, e3, q3⟩ => ?_)
  refine free_err b.xe (thn (pt.run pl s3 τ H3 _ I3 q3) fun ok s4 ⟨H4, I4, q4⟩ => ?_)
  cases ok with
  | false =>
    refine (if_neg (by decide)).mpr ?_
    exact ⟨H4, q4, close e3 H4 s4 I4⟩
  | true =>
    refine (if_pos rfl).mpr ?_
    exact free_err b.xe (thn (pe.run pl s4 τ H4 _ I4 q4) fun u2 s5 ⟨y, H5, I5, ry, q5⟩ => ⟨y, H5, pl, τ, ry, q5, I5, close e3⟩)
/-- the set of what was made so far -/
abbrev has (l : List Int) : Int → Bool := fun k => decide (k ∈ l)
theorem has_add (l : List Int) (c : Int) : (fun j => has l j || decide (j = c)) = has (l ++ [c]) := by
  funext j
  by_cases a : j ∈ l <;> by_cases b : j = c <;> simp [has, a, b]
/-- at most so many members -/
def HasO (w : World) (D : Addr) (l : List Int) (o : HO) : Prop := ∃ n, n ≤ l.length ∧ o = SetO w D (has l) n
/-- {elt for tg in iter if ..}: m turns, P what holds ahead of each, with the numbers made -/
def tInts (w : World) (wi : TI) (g : TG) (tt : TT) (te : TE) (vs : List Nat) : TE := fun σ H Q => wi σ H fun J H1 => ∀ D, H1 D = none → ∃ (m : Nat) (P : Nat → List Int → Hp → Prop),
  (∀ o, HasO w D [] o → P 0 [] (upd H1 D o)) ∧ (∀ l G, P m l G → J.stop m G ∧ Q (.ref D) G) ∧ ∀ i l G, i < m → P i l G → J.go i G ∧ ∀ x G', J.yld i G x G' → Step (wipe σ vs) vs g tt te x G'
    (fun y G4 => ∃ (c : Int) (o : HO), y = .int c ∧ G4 D = some o ∧ HasO w D l o ∧ l.length + 1 < scanBound ∧ ∀ o', HasO w D (l ++ [c]) o' → P (i + 1) (l ++ [c]) (upd G4 D o')) (fun G3 => P (i + 1) l G3)
/-- one member more -/
theorem put {pl : List (Addr × Obj)} {τ : L2.St} {G : Hp} {D : Addr} {l : List Int} {c : Int} {o : HO} {u : Value} (I : Inv X pl τ G s) (r : RelV (.int c) u) (hD : G D = some o) (ho : HasO X.w D l o) (room : l.length + 1 < scanBound) (e : X.xe = Nev) :
    wpAny (model X.prog X.w) X.A (call (.builtin "set.add") [.ref D, u]) (fun _ s1 => ∃ o', HasO X.w D (l ++ [c]) o' ∧ Inv X pl τ (upd G D o') s1) Nev s := by
  obtain ⟨n, hn, rfl⟩ := ho
  refine free_err e (thn (mt_sadd pl s τ G (.ref D) [.int c] (.ref D) [u] (fun _ G1 => ∃ o', HasO X.w D (l ++ [c]) o' ∧ G1 = upd G D o') I rfl (.cons r .nil) ⟨D, c, has l, n, rfl, rfl, hD, by omega, SetO X.w D (has (l ++ [c])) (if has l c = true then n else n + 1), ⟨_, ?_, rfl⟩, ?_⟩) fun v s1 ⟨_, G1, I1, _, o', h, e1⟩ => ⟨o', h, e1 ▸ I1⟩)
  · rw [List.length_append, List.length_singleton]
    split <;> omega
  · rw [has_add]
/-- all the turns, from ahead of the first -/
theorem turns {m : Nat} {P : Nat → List Int → Hp → Prop} {D : Addr} {ce : Env} {scope : Scope} {pos : Pos} {R : Result → Shared → Prop} {Q : VK} (b : IsBlk X fp) (T : Turn X.prog X.w X.K tg J fp it tn) (pg : PG X tg g) (pt : PTs X ifs tt) (pe : PE X elt te) (iter : Expr) (hce : ce = X.env)
    (stop : ∀ l G, P m l G → J.stop m G ∧ Q (.ref D) G) (next : ∀ i l G, i < m → P i l G → J.go i G ∧ ∀ x G', J.yld i G x G' → Step σ vs g tt te x G'
      (fun y G4 => ∃ (c : Int) (o : HO), y = .int c ∧ G4 D = some o ∧ HasO X.w D l o ∧ l.length + 1 < scanBound ∧ ∀ o', HasO X.w D (l ++ [c]) o' → P (i + 1) (l ++ [c]) (upd G4 D o')) (fun G3 => P (i + 1) l G3))
    (done : ∀ G s, Inv X [] σ G s → Q (.ref D) G → R (.ok .next) s) {H : Hp} {s : Shared} (a : At X σ fp tn 0 H s) (h : P 0 [] H) :
    codeAny (model X.prog X.w) X.A (.compLoop (.SetComp elt [⟨tg, iter, ifs, 0⟩] scope pos) 0 (.ref it) (.ref D) ce) R s := by
  subst hce
  refine PpSet.compLoopS_any (fun n s => ∃ i l H, i + n = m ∧ At X σ fp tn i H s ∧ P i l H) ?_ m ⟨0, [], H, Nat.zero_add _, a, h⟩
  rintro n s ⟨i, l, G, en, a, p⟩
  rcases Nat.eq_zero_or_pos n with rfl | hn
  · obtain rfl : i = m := en
    obtain ⟨st, q⟩ := stop l G p
    exact thnF (T.done X rfl rfl rfl b.calm i [] s σ G _ a.inv (fpOk_of b a.inv a.out) a.tn st) fun r s1 ⟨er, I1⟩ => by
      subst er
      exact done G s1 I1 q
  · obtain ⟨go, step⟩ := next i l G (by omega) p
    refine thnF (one b T a go pg pt pe step) fun r s1 ⟨v, er, h1⟩ => ?_
    subst er
    refine thnF h1 fun _ s2 h2 => thnF h2 fun _ s3 h3 => thnF h3 fun ok s4 h4 => ?_
    cases ok with
    | false =>
      refine (if_neg (by decide)).mpr ?_
      obtain ⟨G4, q4, a4⟩ := (if_neg (by decide)).mp h4
      exact ⟨n - 1, by omega, i + 1, l, G4, by omega, a4, q4⟩
    | true =>
      refine (if_pos rfl).mpr ?_
      refine thnF ((if_pos rfl).mp h4) fun u s5 ⟨y, G5, pl, τ, ry, ⟨c, o, ey, hD, ho, room, nx⟩, I5, cl⟩ => ?_
      subst ey
      exact thnF (put I5 ry hD ho room b.xe) fun _ s6 ⟨o', h6, I6⟩ => ⟨n - 1, by omega, i + 1, _, _, by omega, cl _ _ I6, nx o' h6⟩
end
section
variable {X : Cx} {σ : L2.St} {H : Hp} {s : Shared} {pins : List (Addr × Obj)} {D : Addr}
/-- an empty set on the heap -/
abbrev emp (w : World) : Obj := { cls := .type "set", dict := none, data := .set #[] 0 (.fresh 0 0 (!w.params.followText "set-order")) }
theorem laid_emp (I : Inv X pins σ H s) (e : s.heap.objs.size = D) : Inv X pins σ (upd H D (SetO X.w D (has []) 0)) { s with heap := s.heap.push (emp X.w) } := by
  subst e
  exact I.laid (t' := s.toks) (fun _ _ q => Heap.get?_push_of_some _ q) (Nat.le_refl _) (setO_new (by rw [show has [] = fun _ => false from by funext k; simp [has]]; exact setR_fresh X.w))
/-- what a list of addresses away from the new object keeps -/
theorem fp_laid {fp : List Addr} {o : HO} {ob : Obj} (e : s.heap.objs.size = D) (f : ∀ b ∈ fp, FpOk X pins H b) (z : ∀ b ∈ fp, b < s.heap.objs.size) : ∀ b ∈ fp, FpOk X pins (upd H D o) b ∧ b < ({ s with heap := s.heap.push ob } : Shared).heap.objs.size := fun b hb => by
  have lt : b < s.heap.objs.size := z b hb
  obtain ⟨f0, f1⟩ := f b hb
  refine ⟨⟨?_, f1⟩, ?_⟩
  · rw [upd_ne (e ▸ Nat.ne_of_lt lt)]
    exact f0
  · show b < (s.heap.push ob).objs.size
    rw [Heap.size_push]
    exact Nat.lt_succ_of_lt lt
/-- {elt for tg in iter if ..} as a value -/
theorem pe_ints {elt tg iter : Expr} {ifs : List Expr} {scope : Scope} {own : List (PySem.Str × Nat)} {pos : Pos} {wi : TI} {g : TG} {tt : TT} {te : TE} (hc : X.calm = true) (hN : X.N.Nodup) (hi : PI X tg iter wi) (ok : BlkOk X.N X.env.scope scope own)
    (hg : ∀ (s : Shared) (H : Hp) (C : Addr) (cl : List (PySem.Str × Addr)) (fp : List Addr), PG (X.blk s H scope (compEnvC scope cl C X.env) fp) tg g) (ht : ∀ (s : Shared) (H : Hp) (C : Addr) (cl : List (PySem.Str × Addr)) (fp : List Addr), PTs (X.blk s H scope (compEnvC scope cl C X.env) fp) ifs tt)
    (he : ∀ (s : Shared) (H : Hp) (C : Addr) (cl : List (PySem.Str × Addr)) (fp : List Addr), PE (X.blk s H scope (compEnvC scope cl C X.env) fp) elt te) (hs : ∀ x, foldedSetIterable iter X.env x = pure x := by intro _; rfl) :
    PE X (.SetComp elt [⟨tg, iter, ifs, 0⟩] scope pos) (tInts X.w wi g tt te (own.map (·.2))) := by
  refine ⟨fun pins s σ H Q I h => ?_⟩
  rw [PpSet.eval_SetComp]
  have inner : ∀ y ∈ scope.names, y.2 = .free → ∃ c, X.env.cells.lookup y.1 = some c := fun y hy e => I.ok.has _ (ok.free y hy e)
  refine wpAny_comprehension_free rfl hs (closure_ok inner) ok.kind (fun y hy e => (ok.uniq y hy).trans (by rw [e])) (thn (hi.run pins s σ H _ I h) fun _ s1 h1 => thn h1 fun itv s2 h2 => ?_)
  obtain ⟨it, fp, tn, J, G, ei, I2, T, t2, f2, q⟩ := h2
  subst ei
  have z2 : ∀ b ∈ fp, b < s2.heap.objs.size := fun b hb => by
    obtain ⟨_, e, _⟩ := T.obj _ _ t2 b hb
    exact Heap.lt_size e
  obtain ⟨m, P, p0, stop, next⟩ := q s2.heap.objs.size (I2.hok.fresh (Nat.le_refl _))
  have I3 := laid_emp I2 rfl
  have f3 := fp_laid (o := SetO X.w s2.heap.objs.size (has []) 0) (ob := emp X.w) rfl f2 z2
  have t3 : tn 0 (s2.heap.push (emp X.w)) := T.keep _ _ _ t2 fun b _ o e => Heap.get?_push_of_some _ e
  have p3 := p0 _ ⟨0, Nat.le_refl _, rfl⟩
  refine PpSet.newSet_ok (newEnv_comp ?_)
  generalize upd G s2.heap.objs.size (SetO X.w s2.heap.objs.size (has []) 0) = G3 at I3 f3 p3
  have I4 := block_start I3 ok hN f3
  have c4 : (compEnvC scope (cellsFrom ((s2.heap.push (emp X.w)).objs.size + 1) scope.names (cloFrom X.env.cells scope.names [])) (s2.heap.push (emp X.w)).objs.size X.env).locals = (s2.heap.push (emp X.w)).objs.size := rfl
  have st : At (X.blk { s2 with heap := s2.heap.push (emp X.w) } G3 scope (compEnvC scope (cellsFrom ((s2.heap.push (emp X.w)).objs.size + 1) scope.names (cloFrom X.env.cells scope.names [])) (s2.heap.push (emp X.w)).objs.size X.env) fp) (wipe σ (own.map (·.2))) fp tn 0 G3 { s2 with heap := pushCells ((s2.heap.push (emp X.w)).push { cls := .type "dict", data := .dict #[] }) scope.names } :=
    ⟨I4, T.keep _ _ _ t3 fun b _ o e => pushCells_keeps _ _ _ _ (Heap.get?_push_of_some _ e), fun b hb => (f3 b hb).1.1⟩
  have loop := turns (X := X.blk { s2 with heap := s2.heap.push (emp X.w) } G3 scope (compEnvC scope (cellsFrom ((s2.heap.push (emp X.w)).objs.size + 1) scope.names (cloFrom X.env.cells scope.names [])) (s2.heap.push (emp X.w)).objs.size X.env) fp)
    (R := compPost (model X.prog X.w) X.A X.xe none (EP X pins σ Q) (.ref s2.heap.objs.size) (s2.heap.push (emp X.w)).objs.size) (pos := pos) (scope := scope) (Q := Q) ⟨rfl, rfl, rfl, hc⟩ T (hg _ _ _ _ fp) (ht _ _ _ _ fp) (he _ _ _ _ fp) iter rfl stop next ?_ st p3
  · exact PpSet.codeAny_compStart_set loop (T.self X.A 0 _ _ _ st.tn loop)
  · intro G5 s5 I5 q5
    have I7 : Inv X pins σ G5 s5 := I3.call' (ch := fp) I5.os I5.base I5.hok I5.bare fun b hb => by
      obtain ⟨_, l, n, x, c, p⟩ := (f3 b hb).1
      exact ⟨x, l, c, p⟩
    obtain ⟨k, hn, _⟩ := I5.loc
    have free : G5 (s2.heap.push (emp X.w)).objs.size = none := I5.free
    obtain ⟨n0, n1, n2, n3, n4, n5⟩ := I3.fpOk (H' := G5) (Nat.le_refl (s2.heap.push (emp X.w)).objs.size) free
    exact ⟨k, hn, fun h'' sb => ⟨.ref s2.heap.objs.size, G5, I7.turned (t' := s5.toks) (fun b o hb e => (sb.2 b hb).trans e) n0 n1 n3 n4 n5, rfl, q5⟩⟩
end
end VS
/-! list(zip(a, b)) and sorted({..}) at trees -/
namespace VL
open PySem L2 DS PyProof.Rows
/-! ### list(zip(a, b)) -/
/-- pairs of trees -/
def pairs (xs ys : List Tr) : List Tr := List.zipWith (fun a b => .tup [a, b]) xs ys
/-- many new tuples are frozen -/
theorem frzAll {g : Gb} {n : Nat} {F0 : FH} {H0 H : Hp} : ∀ (as : List Addr) {F : FH} {us ws : List V} {xs ys : List Tr}, as.Nodup → (∀ a ∈ as, nt H0 a = none) → (∀ a ∈ as, F a = none) → Fr F0 H0 F H → Sub g n F H → Reps g F us xs → Reps g F ws ys → as.length = min us.length ws.length →
    (∀ (j : Nat) a, as[j]? = some a → ∃ x y, us[j]? = some x ∧ ws[j]? = some y ∧ H a = some (.tup [x, y])) → ∃ F', Fr F0 H0 F' H ∧ Sub g n F' H ∧ Reps g F' (as.map V.ref) (pairs xs ys) ∧ ∀ b, b ∉ as → F' b = F b
  | [], F, us, ws, xs, ys, _, _, _, f, s, rx, ry, hl, _ => by
    refine ⟨F, f, s, ?_, fun _ _ => rfl⟩
    rw [rx.length, ry.length] at hl
    have e : pairs xs ys = [] := by
      cases xs with
      | nil => rfl
      | cons x xs => cases ys with
        | nil => rfl
        | cons y ys => simp at hl
    rw [e]
    exact .nil
  | a :: as, F, us, ws, xs, ys, nd, n0, nf, f, s, rx, ry, hl, look => by
    obtain ⟨x, y, e1, e2, ea⟩ := look 0 a rfl
    cases rx with
    | nil => cases e1
    | cons r1 rx => cases ry with
      | nil => cases e2
      | cons r2 ry =>
        cases e1
        cases e2
        obtain ⟨l, s'⟩ := freeze s ea (nf a (by simp))
        have f' := f.frz (o := .ob (.tup [x, y])) (n0 a (by simp)) (nf a (by simp))
        rw [List.nodup_cons] at nd
        have off : ∀ b ∈ as, b ≠ a := fun b hb z => nd.1 (z ▸ hb)
        obtain ⟨F', f2, s2, rr, keep⟩ := frzAll as nd.2 (fun b hb => n0 b (by simp [hb])) (fun b hb => by rw [updF_ne (off b hb)]; exact nf b (by simp [hb])) f' s' (rx.mono l) (ry.mono l) (by simp at hl; omega) (fun j b e => look (j + 1) b e)
        have at_ : F' a = some (.ob (.tup [x, y])) := by rw [keep a nd.1, updF_same]
        have ll : le F F' := fun b u e => by
          by_cases q : b ∈ as
          · rw [nf b (by simp [q])] at e; cases e
          · rw [keep b q]; exact l b u e
        refine ⟨F', f2, s2, .cons (.tup (.inl (.inl (hp_eq.mpr at_))) (.cons (r1.mono ll) (.cons (r2.mono ll) .nil))) rr, fun b hb => ?_⟩
        rw [keep b fun z => hb (by simp [z]), updF_ne fun z => hb (by simp [z])]
def cZipL : VRL
  | [.lst xs, .lst ys], n, Q => min xs.length ys.length ≤ sizeLine ∧ Q (.lst (pairs xs ys)) n
  | _, _, _ => False
section
variable {X : Cx} {Γ : Cn} {tl : RA}
theorem zip_in (hK : X.K = Γ.g.K) {σ : L2.St} {H : Hp} {Q' : VK} (h : lE Γ (vCB cZipL tl) σ H Q') : VZ.tZipL X.K (lA Γ tl) σ H Q' := by
  obtain ⟨ρ, n, F, Q, rel, h, k⟩ := h
  refine ⟨ρ, n, F, _, rel, h, fun vs ts n1 F1 H1 f1 s1 r1 q1 => ?_⟩
  match ts, q1, r1 with
  | [.lst xs, .lst ys], q, r =>
    obtain ⟨v, w, rfl, r1, r2⟩ := r.two
    cases r1 with
    | lst e1 rx => cases r2 with
      | lst e2 ry =>
        refine ⟨_, _, _, _, rfl, .inl (.inl (s1.at_ e1)), .inl (.inl (s1.at_ e2)), by rw [rx.length, ry.length]; exact q.1, fun H' p ts z => ?_⟩
        have sm : Same H1 H' := z.same
        have off : ∀ a, H1 a = none → F1 a = none := fun a h => s1.free h
        obtain ⟨F2, f2, s2, rr, keep⟩ := frzAll ts z.nd (fun a ha => nt_none (z.newT a ha)) (fun a ha => off a (z.newT a ha)) (Fr.ofSame sm) (s1.ofSame sm) rx ry z.len z.tup
        have fp : F2 p = none := by rw [keep p z.off]; exact off p z.newL
        obtain ⟨l3, s3⟩ := freeze s2 z.lst fp
        exact (k.go f1) _ _ n1 _ H' (f2.frz (nt_none z.newL) fp) s3 (.lst updF_same (rr.mono l3)) q.2
theorem ve_listZip {e : Expr} (hK : X.K = Γ.g.K) (h : PE X e (VZ.tZipL X.K (lA Γ tl))) : PE X e (lE Γ (vCB cZipL tl)) := PE.imp h fun σ H Q' h => zip_in hK h
end
/-! ### sorted({elt for tg in iter if ..}), whole numbers -/
def ssW (g : RG) (tt : RT) (te : RE) (ρ : List Sl) (Q : VQ) : List Tr → List Int → Nat → Prop
  | [], l, n => l.length < 64 ∧ ∀ ns : List Int, ns.Pairwise (· < ·) → (∀ k : Int, k ∈ ns ↔ k ∈ l) → ns.length ≤ l.length → Q (.lst (ns.map Tr.int)) n
  | t :: ts, l, n => g t n ρ fun n1 ρ1 => tt n1 ρ1 fun b n2 => if b = true then te n2 ρ1 fun y n3 => ∃ c, y = .int c ∧ l.length < 64 ∧ ssW g tt te ρ Q ts (l ++ [c]) n3 else ssW g tt te ρ Q ts l n2
def vSs (it : RA) (g : RG) (tt : RT) (te : RE) (vs : List Nat) : RE := fun n ρ Q => it n ρ fun ts n1 => ssW g tt te (wipeT ρ vs) Q ts [] n1
theorem wipe_again : ∀ (us : List Nat) (τ : L2.St), L2.wipe (L2.wipe τ us) us = L2.wipe τ us := by
  have aux : ∀ (us' us : List Nat) (τ : L2.St), (∀ v ∈ us', v ∈ us) → L2.wipe (L2.wipe τ us') us = L2.wipe τ us := fun us' => by
    induction us' with
    | nil => exact fun us τ _ => rfl
    | cons v us' ih =>
      intro us τ hv
      show L2.wipe ((L2.wipe τ us').set v none) us = _
      rw [wipe_set, if_pos (hv v (by simp))]
      exact ih us τ fun z hz => hv z (by simp [hz])
  exact fun us τ => aux us us τ fun _ z => z
/-- a set's object is no code object, no table, no pen -/
structure SetLike (o : HO) : Prop where
  tbl : ∀ ps, o ≠ .tbl ps
  code : ∀ c q, o ≠ LamX.CodeO c q
  dk : ∀ kvs, o ≠ .dK kvs
theorem ext_inj {f g : Heap → Prop} (h : HO.ext f = HO.ext g) : f = g := by injection h
theorem set_like {w : World} {D : Addr} {l : List Int} {o : HO} (h : VS.HasO w D l o) : SetLike o := by
  obtain ⟨n, _, rfl⟩ := h
  refine ⟨(fun _ z => nomatch z), fun c q z => ?_, (fun _ z => nomatch z)⟩
  have e := congrFun (ext_inj z) { objs := Array.replicate (c + 1) { cls := .type "code", dict := none, data := .fields #[.none, .str q default], slots := #[] } }
  have yes : ∃ (oc : Obj) (vs : Array Value) (t : Tok), ({ objs := Array.replicate (c + 1) { cls := .type "code", dict := none, data := .fields #[.none, .str q default], slots := #[] } } : Heap).get? c = some oc ∧ oc.data = .fields vs ∧ vs[1]? = some (.str q t) :=
    ⟨{ cls := .type "code", dict := none, data := .fields #[.none, .str q default], slots := #[] }, #[.none, .str q default], default, by simp [Heap.get?], rfl, rfl⟩
  rw [← e] at yes
  obtain ⟨u, es, ep, t, h1, _, h2, _⟩ := yes
  by_cases hD : D < c + 1
  · simp [Heap.get?, hD] at h1
    subst h1
    cases h2
  · simp [Heap.get?, hD] at h1
theorem tabs_set {T : List (Addr × Str)} {H : Hp} {D : Addr} {o u : HO} (e : H D = some o) (no : SetLike o) (t : LamX.Tabs T H) : LamX.Tabs T (upd H D u) := fun p hp => by
  obtain ⟨ps, h1, h2, h3⟩ := t p hp
  have n1 : p.1 ≠ D := fun z => by rw [z, e] at h1; cases h1; exact no.tbl _ rfl
  refine ⟨ps, by rw [upd_ne n1]; exact h1, h2, fun pos cv hc => ?_⟩
  obtain ⟨c, e1, e2⟩ := h3 pos cv hc
  have n2 : c ≠ D := fun z => by rw [z, e] at e2; cases e2; exact no.code _ _ rfl
  exact ⟨c, e1, by rw [upd_ne n2]; exact e2⟩
theorem Sub.updS {g : Gb} {n : Nat} {F : FH} {H : Hp} {D : Addr} {o u : HO} (s : Sub g n F H) (e : H D = some o) (no : SetLike o) (f : F D = none) : Sub g n F (L2.upd H D u) := by
  have away : ∀ a, F a ≠ none → a ≠ D := fun a h z => h (z ▸ f)
  refine ⟨fun a w h => ?_, fun a h => ?_, tabs_set e no s.tab, s.nt⟩
  · have h' := hp_eq.mp h
    rw [upd_ne (away a (by rw [h']; intro z; cases z))]
    exact s.at_ h'
  · obtain ⟨c, ns, k, l, h1, h2, h3⟩ := (s.pen a h).ex
    exact ⟨c, ns, k, l, (upd_ne (away a (by rw [h]; intro z; cases z))).trans h1, h2, h3⟩
theorem Rel.updS {Γ : Cn} {n : Nat} {ρ : List Sl} {F : FH} {σ : L2.St} {H : Hp} (r : Rel Γ n ρ F σ H) {D : Addr} {o u : HO} (e : H D = some o) (no : SetLike o) (f : F D = none) (h0 : nt Γ.H0 D = none) (away : ∀ (j : Nat) s, ρ[j]? = some s → isOwn s = true → σ[j]? ≠ some (some (.ref D))) : Rel Γ n ρ F σ (L2.upd H D u) :=
  ⟨r.ok, r.fr.updN h0, r.sub.updS e no f, r.len, fun i s es => (r.sl i s es).imp fun x h => ⟨h.1, h.2.upd fun ow z => away i s es ow (by rw [h.1, z])⟩, r.dis⟩
section
variable {X : Cx} {Γ : Cn} {te : RE} {pos p : Pos}
theorem ss_in {w : World} {it : RA} {g : RG} {tt : RT} {vs : List Nat} {σ : L2.St} {H : Hp} {Q' : VK} (h : lE Γ (vSs it g tt te vs) σ H Q') : tCB (rSortedSet w) (tCons (VS.tInts w (lI Γ it) (lG Γ.nox vs g) (lT Γ.nox tt) (lE Γ.nox te) vs) tNil) σ H Q' := by
  obtain ⟨ρ, n, F, Q, rel, h, k⟩ := h
  refine ⟨ρ, n, F, _, rel, h, fun J ts n1 F1 H1 f1 s1 iv q1 D hD => ?_⟩
  have rel1 := rel.go f1 s1
  have rw1 := rel1.wipe vs
  have away := own_some rw1 hD
  have h0 : nt Γ.H0 D = none := by
    cases q : nt Γ.H0 D with
    | none => rfl
    | some w => exact absurd (nt_none hD) (rel1.fr.there D (by rw [q]; intro z; cases z))
  refine ⟨ts.length, fun i l G => ∃ n F o, Fr F1 H1 F G ∧ Sub Γ.g n F G ∧ G D = some o ∧ VS.HasO w D l o ∧ F D = none ∧ Rel Γ n (wipeT ρ vs) F (L2.wipe σ vs) G ∧ ssW g tt te (wipeT ρ vs) Q (ts.drop i) l n, fun o ho => ?_, ?_, ?_⟩
  · obtain ⟨fa, sa⟩ := alloc0 (o := o) s1 hD
    exact ⟨n1, F1, o, fa, sa, upd_same, ho, s1.free hD, rw1.go fa sa, q1⟩
  · rintro l G ⟨n, F2, o, f2, s2, eD, ⟨m, hm, rfl⟩, nD, rel2, w2⟩
    rw [List.drop_length] at w2
    refine ⟨iv.stop n F2 G f2.le s2, D, _, m, rfl, eD, by have := w2.1; omega, fun ns p hp hk hl np => ?_⟩
    obtain ⟨f3, s3⟩ := alloc (o := .lst (ns.map V.int)) s2 np
    exact ((k.go f1).go f2) _ _ n _ _ f3 s3 (.lst updF_same (Reps.of_ints ns)) (w2.2 ns hp (fun k => by rw [hk k]; simp [VS.has]) (by omega))
  · rintro i l G hi ⟨n, F2, o, f2, s2, eD, ho, nD, rel2, w2⟩
    refine ⟨iv.go i n F2 G hi f2.le s2, fun x G' y => ?_⟩
    rw [List.drop_eq_getElem_cons hi] at w2
    obtain ⟨F3, f3, s3, r3⟩ := iv.yld i ts[i] n F2 G x G' (List.getElem?_eq_getElem hi) f2.le s2 y
    have rel3 := rel2.go f3 s3
    refine ⟨wipeT ρ vs, n, F3, ts[i], _, rel3.nox, r3, w2, fun σ4 ρ4 rel4 w4 q4 => ⟨by rw [w4, wipe_again], ρ4, n, F3, _, rel4, q4, fun b n5 F5 G5 f5 s5 q5 => ?_⟩⟩
    have back : Rel Γ n5 (wipeT ρ vs) F5 (L2.wipe σ vs) G5 := rel3.go f5 s5
    have noT : ∀ ps, o ≠ .tbl ps := (set_like ho).tbl
    have nD3 : F3 D = Option.none := f3.none nD eD noT
    have eD5 : G5 D = some o := (f3.trans f5).keep D _ eD (by rw [nD]; intro z; cases z) noT
    have nD5 : F5 D = Option.none := (f3.trans f5).none nD eD noT
    have f15 : Fr F1 H1 F5 G5 := (f2.trans f3).trans f5
    cases b with
    | false => exact iteF ⟨n5, F5, o, f15, s5, eD5, ho, nD5, back, q5⟩
    | true =>
      refine iteT ⟨ρ4, n5, F5, _, rel4.go f5 s5, q5, fun v t n6 F6 G6 f6 s6 r6 ⟨c, et, hl, q6⟩ => ?_⟩
      subst et
      have eD6 : G6 D = some o := f6.keep D _ eD5 (by rw [nD5]; intro z; cases z) noT
      have nD6 : F6 D = Option.none := f6.none nD5 eD5 noT
      cases r6
      exact ⟨c, o, rfl, eD6, ho, by show _ < 4096; omega, fun o' ho' => ⟨n6, F6, o', (f15.trans f6).updN (nt_none hD), s6.updS eD6 (set_like ho) nD6, upd_same, ho', nD6, (back.go f6 s6).updS eD6 (set_like ho) nD6 h0 away, q6⟩⟩
theorem ve_sortedSet {elt tg iter : Expr} {ifs : List Expr} {scope : Scope} {own : List (Str × Nat)} {cpos : Pos} {it : RA} {g : RG} {tt : RT} (hc : X.calm = true) (hgl : Gl X "sorted") (hm : X.mg "sorted" = none) (hN : X.N.Nodup) (hi : PI X tg iter (lI Γ it)) (ok : BlkOk X.N X.env.scope scope own)
    (hg : ∀ (s : Shared) (H : Hp) (C : Addr) (cl : List (Str × Addr)) (fp : List Addr), PG (X.blk s H scope (compEnvC scope cl C X.env) fp) tg (lG Γ.nox (own.map (·.2)) g)) (ht : ∀ (s : Shared) (H : Hp) (C : Addr) (cl : List (Str × Addr)) (fp : List Addr), PTs (X.blk s H scope (compEnvC scope cl C X.env) fp) ifs (lT Γ.nox tt))
    (he : ∀ (s : Shared) (H : Hp) (C : Addr) (cl : List (Str × Addr)) (fp : List Addr), PE (X.blk s H scope (compEnvC scope cl C X.env) fp) elt (lE Γ.nox te)) (hs : ∀ x, foldedSetIterable iter X.env x = pure x := by intro _; rfl) :
    PE X (.Call (.Name "sorted" p) [.SetComp elt [⟨tg, iter, ifs, 0⟩] scope pos] [] cpos) (lE Γ (vSs it g tt te (own.map (·.2)))) :=
  PE.imp (pe_callB (cr_sortedSet hc) hgl hm boot_sorted (pa_cons (VS.pe_ints hc hN hi ok hg ht he hs) pa_nil)) fun σ H Q' h => ss_in h
end
/-! ### x, y = [..], []: both are lists that will be changed -/
def vParOO (i j : Nat) (l : RA) : RS := fun D n ρ => l n ρ fun ts n1 => ts.length ≤ sizeLine ∧ D.nx n1 ((ρ.set i (.ol ts)).set j (.ol []))
theorem vs_parOO {X : Cx} {Γ : Cn} {st : Stmt} {i j : Nat} {tl : RA} (h : PS X st (tPar i j (tCons (tLst (lA Γ tl)) (tCons (tLst tNil) tNil)))) : PS X st (lS Γ (vParOO i j tl)) :=
  PS.imp h fun D' σ H ⟨ρ, n, F, D, rel, h, ok⟩ => ⟨ρ, n, F, _, rel, h, fun vs ts n1 F1 H1 f1 s1 r1 q1 => by
    refine ⟨by rw [r1.length]; exact q1.1, fun p hp => ⟨Nat.zero_le _, fun q hq => ⟨_, _, rfl, ?_⟩⟩⟩
    have rel1 := (rel.go f1 s1).setO (i := i) (s1 := .ol ts) (o := .lst vs) hp fun a b => ⟨p, vs, rfl, upd_same, a, b, r1⟩
    exact ok.nx _ n1 F1 _ _ f1.le (rel1.setO (i := j) (s1 := .ol []) (o := .lst []) hq fun a b => ⟨q, [], rfl, upd_same, a, b, .nil⟩) q1.2⟩
end VL
/-! int("1" + "0" * n) -/
namespace VL
open PySem L2 DS PyProof.Rows
/-- so many zeros -/
def zs (n : Nat) : Str := ⟨Array.replicate n 48⟩
theorem zs_rep : ∀ n : Nat, (List.replicate n (#[48] : Array Nat)).foldl (· ++ ·) #[] = Array.replicate n 48 := by
  have aux : ∀ (n : Nat) (a : Array Nat), (List.replicate n (#[48] : Array Nat)).foldl (· ++ ·) a = a ++ Array.replicate n 48 := by
    intro n
    induction n with
    | zero => intro a; simp
    | succ n ih =>
      intro a
      rw [List.replicate_succ, List.foldl_cons, ih, Array.append_assoc]
      congr 1
      rw [Array.replicate_succ']
  intro n
  rw [aux]
  simp
theorem op_mulZ {X : Cx} : OpR X (binaryOp .Mult) (fun x y H Q => ∃ i : Int, x = .str "0" ∧ y = .int i ∧ 0 ≤ i ∧ i ≤ 600 ∧ Q (.str (zs i.toNat)) H) := by
  intro pins s σ H x y v u Q I rx ry h
  obtain ⟨i, rfl, rfl, h0, h1, q⟩ := h
  obtain ⟨t, rfl⟩ := rx
  obtain ⟨t', rfl⟩ := ry
  have l1 : ("0" : Str).length = 1 := by decide +kernel
  have c1 : ("0" : Str).cps = #[48] := by decide +kernel
  have done : EP X pins σ Q (.str (zs i.toNat) t) { s with toks := s.toks } := ⟨.str (zs i.toNat), H, I, ⟨_, rfl⟩, q⟩
  have more : ∀ t2, EP X pins σ Q (.str (zs i.toNat) t2) { s with toks := s.toks + 1 } := fun t2 => ⟨.str (zs i.toNat), H, I.tok _, ⟨_, rfl⟩, q⟩
  have tl : ∀ n : Nat, n ≤ 600 → PySem.Builtin.Str.tooLong n = false := fun n hn => by
    unfold PySem.Builtin.Str.tooLong
    exact decide_eq_false (by have : (600 : Nat) ≤ sizeLine := by decide
                              omega)
  refine PySem.P.mul_str (by rw [decide_eq_false (by omega), decide_eq_false (by omega)]; rfl) (fun _ _ => ?_) (fun _ _ => ?_) ?_
  · rename_i a b
    rw [l1]
    have := Int.le_ediv_of_mul_le (a := 1) (b := 2 ^ 63 - 1) (c := i) (by omega) (by omega)
    omega
  · rw [l1, Nat.one_mul]
    exact tl _ (by omega)
  · have big : ∀ n : Nat, n ≤ 600 → n ≤ sizeLine := fun n hn => Nat.le_trans hn (by decide)
    by_cases a : i < 1
    · rw [if_pos a]
      have : i = 0 := by omega
      subst this
      exact ⟨by decide, more _⟩
    · rw [if_neg a]
      by_cases b : i = 1
      · subst b
        rw [if_pos (show ((1 : Int) == 1 || ("0" : Str).length == 0) = true from rfl), show (Str.ofString "0") = zs (Int.toNat 1) from by decide +kernel]
        exact done
      · rw [if_neg (by rw [l1]; simp [b]), c1, zs_rep]
        exact ⟨by show (Array.replicate i.toNat 48).size ≤ _; rw [Array.size_replicate]; exact big _ (by omega), more _⟩
def vMulZ : VR2
  | .str x, .int i, n, Q => x = "0" ∧ 0 ≤ i ∧ i ≤ 600 ∧ Q (.str (zs i.toNat)) n
  | _, _, _, _ => False
theorem ov_mulS {X : Cx} {Γ : Cn} : OpR X (binaryOp .Mult) (lR Γ vMulZ) := OpR.imp op_mulZ fun x y H Q' ⟨n, F, tx, ty, Q, ok, fr, s, rx, ry, q, k⟩ => by
  cases rx with
  | str x => cases ry with
    | int i =>
      obtain ⟨rfl, h0, h1, q⟩ := q
      exact ⟨i, rfl, rfl, h0, h1, k.here s (.str _) q⟩
    | _ => exact q.elim
  | _ => exact q.elim
def vAddS : VR2
  | .str x, .str y, n, Q => x.length + y.length ≤ sizeLine ∧ Q (.str (x ++ y)) n
  | _, _, _, _ => False
theorem ov_addS {X : Cx} {Γ : Cn} : OpR X (binaryOp .Add) (lR Γ vAddS) := OpR.imp op_add_str fun x y H Q' ⟨n, F, tx, ty, Q, ok, fr, s, rx, ry, q, k⟩ => by
  cases rx with
  | str x => cases ry with
    | str y => exact ⟨x, y, rfl, rfl, q.1, k.here s (.str _) q.2⟩
    | _ => exact q.elim
  | _ => exact q.elim
def cIntS : VRL
  | [.str x], n, Q => ∃ k, intText? x = some k ∧ x.length ≤ 640 ∧ Q (.int k) n
  | _, _, _ => False
theorem cv_intS {X : Cx} {Γ : Cn} : CallR X (.type "int") (lC Γ cIntS) := CallR.imp call_int_str fun xs H Q' ⟨n, F, ts, Q, ok, fr, s, r, q, k⟩ => by
  match ts, q, r with
  | [.str x], ⟨j, h1, h2, q⟩, r =>
    obtain ⟨v, rfl, r1⟩ := r.one
    cases r1
    exact ⟨x, j, rfl, h1, h2, k.here s (.int _) q⟩
theorem zs_len (n : Nat) : (zs n).length = n := by show (Array.replicate n 48).size = n; simp
theorem one_len (n : Nat) : (("1" : Str) ++ zs n).length = n + 1 := by
  show (("1" : Str).cps ++ Array.replicate n 48).size = n + 1
  rw [Array.size_append, Array.size_replicate, show ("1" : Str).cps.size = 1 from by decide +kernel]
  omega
theorem zeros_val : ∀ (n a : Nat), (List.replicate n 48).foldl (fun acc c => acc * 10 + (c - 48)) a = a * 10 ^ n
  | 0, a => by simp
  | n + 1, a => by
    rw [List.replicate_succ, List.foldl_cons, zeros_val n, Nat.pow_succ, Nat.sub_self, Nat.add_zero, Nat.mul_assoc, Nat.mul_comm 10]
theorem ten_text {n : Nat} (h : n ≤ 600) : intText? (("1" : Str) ++ zs n) = some ((10 : Int) ^ n) := by
  have e : (("1" : Str) ++ zs n).cps.toList = 49 :: List.replicate n 48 := by
    show (("1" : Str).cps ++ Array.replicate n 48).toList = _
    rw [show ("1" : Str).cps = #[49] from by decide +kernel]
    simp
  rw [intText_digits (fun c hc => ?_) (by rw [e]; simp) (by rw [one_len]; omega)]
  · show some ((List.foldl (fun acc c => acc * 10 + (c - 48)) 0 (("1" : Str) ++ zs n).cps.toList : Nat) : Int) = _
    rw [e, List.foldl_cons, zeros_val]
    simp
  · rw [e] at hc
    rcases List.mem_cons.mp hc with q | q
    · omega
    · have := (List.mem_replicate.mp q).2
      omega
end VL
/-! != of lists that hold instances: the same tree twice -/
namespace VL
section
open PySem PySem.SeqAt PySem.MeetsSeq3
variable {prog : Program} {w : World} {A : Around}
/-- as long as J holds two lists of N items stand at l and b, and their items are equal two by two -/
def Twins (prog : Program) (w : World) (A : Around) (R : Result → Shared → Prop) (J : Shared → Prop) (l b : Addr) (N : Nat) : Prop := ∀ s, J s → ∃ (xs ys : Array Value) (n m : Nat) (dx dy : Option Addr) (sx sy : Array (Option Value)),
  s.heap.get? l = some ⟨.type "list", dx, .seq xs n, sx⟩ ∧ s.heap.get? b = some ⟨.type "list", dy, .seq ys m, sy⟩ ∧ xs.size = N ∧ ys.size = N ∧
  ∀ i (h1 : i < xs.size) (h2 : i < ys.size), wpAny (model prog w) A.in1 (eqBool xs[i] ys[i]) (fun r s' => r = true ∧ J s') (fun e s' => R (.error e) s') s
theorem lstNeFrom {l b : Addr} {N : Nat} {R : Result → Shared → Prop} {J : Shared → Prop} (T : Twins prog w A R J l b N) (done : ∀ s, J s → R (.ok (.ret (.bool false))) s) : ∀ (left i : Nat), i + left = N → ∀ s, J s →
    wpAny (model prog w) A.in1 (Builtin.«list.__eq__.loop» ⟨[.ref l, .ref b, rawInt i, rawInt 3], []⟩) (GQ.FinOf prog w A R) (fun e s' => R (.error e) s') s := by
  intro left
  induction left with
  | zero =>
    intro i hi s j
    obtain ⟨xs, ys, n, m, dx, dy, sx, sy, gx, gy, zx, zy, _⟩ := T s j
    have z := done s j
    obtain ⟨hp, g, d, tk, os⟩ := s
    have a1 : xs[((i : Nat) : Int).toNat]? = none := Array.getElem?_eq_none (by rw [Int.toNat_natCast]; omega)
    have a2 : ys[((i : Nat) : Int).toNat]? = none := Array.getElem?_eq_none (by rw [Int.toNat_natCast]; omega)
    wp_walk using AutoSeq1.wpAny_loadPart' gx, AutoSeq1.wpAny_loadPart' gy
    rw [a1, a2]
    wp_walk using AutoSeq1.wpAny_loadPart' gx, AutoSeq1.wpAny_loadPart' gy
    show R (.ok (.ret (.bool (xs.size != ys.size)))) _
    rw [zx, zy, bne_self_eq_false]
    exact z
  | succ left ih =>
    intro i hi s j
    obtain ⟨xs, ys, n, m, dx, dy, sx, sy, gx, gy, zx, zy, step⟩ := T s j
    have st := step i (by omega) (by omega)
    obtain ⟨hp, g, d, tk, os⟩ := s
    have a1 : xs[((i : Nat) : Int).toNat]? = some xs[i] := by rw [Int.toNat_natCast]; exact Array.getElem?_eq_getElem (by omega)
    have a2 : ys[((i : Nat) : Int).toNat]? = some ys[i] := by rw [Int.toNat_natCast]; exact Array.getElem?_eq_getElem (by omega)
    wp_walk using AutoSeq1.wpAny_loadPart' gx, AutoSeq1.wpAny_loadPart' gy
    rw [a1, a2]
    refine wpAny_bind (wpAny_mono st (fun r s2 ⟨hr, j2⟩ => ?_) fun _ _ x => x)
    subst hr
    wp_walk
    have go := ih (i + 1) (by omega) s2 j2
    rw [Int.natCast_add, show (((1 : Nat) : Int)) = 1 from rfl] at go
    exact ⟨plainId_quiet plain_eq_loop _, codeAny_builtin entry_eq_loop ((Around.under_plainId (A := A) plain_eq_loop _).symm ▸ go)⟩
/-- list.__ne__ -/
theorem lstNe {l b : Addr} {N : Nat} {R : Result → Shared → Prop} {J : Shared → Prop} (T : Twins prog w A R J l b N) (done : ∀ s, J s → R (.ok (.ret (.bool false))) s) (s : Shared) (j : J s) :
    wpAny (model prog w) A.in1 (Builtin.«list.__ne__» ⟨[.ref l, .ref b], []⟩) (GQ.FinOf prog w A R) (fun e s' => R (.error e) s') s := by
  have go := lstNeFrom T done N 0 (Nat.zero_add N) s j
  obtain ⟨xs, ys, n, m, dx, dy, sx, sy, gx, gy, zx, zy, _⟩ := T s j
  have sub := AutoSeq1.sub_list_list
  have same : ¬ (xs.size != ys.size) = true := by rw [zx, zy, bne_self_eq_false]; decide
  obtain ⟨hp, g, d, tk, os⟩ := s
  wp_walk using AutoSeq1.wpAny_loadPart' gx, AutoSeq1.wpAny_loadPart' gy
  exact ⟨plainId_quiet plain_eq_loop _, codeAny_builtin entry_eq_loop ((Around.under_plainId (A := A) plain_eq_loop _).symm ▸ go)⟩
end
section
open PySem L2 DS PyProof.Rows
variable {X : Cx} {n : Nat} {D : Eqv}
theorem ncG_list (mon : Mon D) (eq : EqG X n D) : NcG X (n + 1) (DList D) := fun A pins s σ H x y u v sb I rx ry d => by
  obtain ⟨a, b, vs, ws, rfl, rfl, ha, hb, pr⟩ := d
  cases rx
  cases ry
  have look : ∀ s', LoopI X pins σ H s' → ∃ (us ts : List Value) (k k2 : Nat), Vals vs us ∧ Vals ws ts ∧ s'.heap.get? a = some { cls := .type "list", data := .seq us.toArray k } ∧ s'.heap.get? b = some { cls := .type "list", data := .seq ts.toArray k2 } := fun s' q => by
    obtain ⟨H1, I1, e1⟩ := id q
    obtain ⟨_, us, k, r, e⟩ := I1.hok a _ (e1 _ _ ha)
    obtain ⟨_, ts, k2, r2, e2⟩ := I1.hok b _ (e1 _ _ hb)
    exact ⟨us, ts, k, k2, r, r2, e, e2⟩
  have j0 : LoopI X pins σ H s := ⟨H, I, Ext.rfl'⟩
  obtain ⟨us, ts, k, k2, r, r2, g1, g2⟩ := look s j0
  refine wpAny_richCompare_same_room (op := .NotEq) ⟨_, g1, rfl⟩ ⟨_, g2, rfl⟩ F.slot_list_ne (GQ.call_here F.slot_list_ne ⟨_, g1, rfl⟩ F.entry_list_ne (F.args_list_ne_2 _ _) ?_) sb.room.units0
  refine lstNe (N := vs.length) (R := wants (fun z s' => z ≠ .notImplemented ∧ z = .bool false ∧ LoopI X pins σ H s') X.xe) (J := LoopI X pins σ H) (fun s' q => ?_) (fun s' li => ⟨(fun z => nomatch z), rfl, li⟩) s j0
  obtain ⟨us, ts, k, k2, r, r2, g1, g2⟩ := look s' q
  exact ⟨us.toArray, ts.toArray, k, k2, _, _, _, _, g1, g2, by rw [List.size_toArray, ← r.length], by rw [List.size_toArray, ← r2.length, ← pr.1], fun i h1 h2 => turnG mon eq sb pr r r2 i h1 h2 s' q⟩
/-- xs != ys, lists of the same trees -/
def vNeL (C : Addr) (ok : List (Str × Tr) → Prop) (k : Nat) : VR2
  | .lst ts, .lst us, n, Q => ts = us ∧ (∀ t ∈ ts, NiceG C ok k t) ∧ Q (.bl false) n
  | _, _, _, _ => False
theorem ov_neL {X : Cx} {Γ : Cn} {C : Addr} {ok : List (Str × Tr) → Prop} {m k : Nat} (hK : X.K = Γ.g.K) (hI : ∀ fs, ok fs → RcG X m (DT Γ.g (.ins C fs))) (hr : Room (m + k + 1) X.A) : OpR X (compareOp .NotEq) (lR Γ (vNeL C ok k)) := by
  intro pins s σ H x y v u Q' I rx ry ⟨n, F, tx, ty, Q, okk, fr, sb, r1, r2, q, kk⟩
  cases r1 with
  | lst e1 q1 => cases r2 with
    | lst e2 q2 =>
      obtain ⟨rfl, hn, q⟩ := q
      refine op_neG (D := DList (fun x y H => ∃ t, t ∈ _ ∧ DT Γ.g t x y H)) (ncG_list (mon_ex fun _ => mon_DT) (eqG_ex fun t mt => eqG_tree hK hI (hn t mt))) hr pins s σ H _ _ v u Q' I rx ry ⟨⟨_, _, _, _, rfl, rfl, sb.at_ e1, sb.at_ e2, prs_reps sb (fun _ h => h) q1 q2⟩, fun H' e => ?_⟩
      exact kk _ _ n F H' (Fr.ofSame e) (sb.ofSame e) (.bl false) q
    | _ => exact q.elim
  | _ => exact q.elim
end
end VL
/-! enumerate, displays of dicts with texts as keys, owned lists by repetition, an owned list beside [] -/
namespace VL
open PySem L2 DS PyProof.Rows
section
variable {X : Cx} {Γ : Cn} {e o i : Expr} {te : RE} {pos : Pos}
/-! ### enumerate -/
def enumT : Nat → List Tr → List Tr
  | _, [] => []
  | i, t :: ts => .tup [.int ((i : Nat) : Int), t] :: enumT (i + 1) ts
theorem enumT_len : ∀ (ts : List Tr) (i : Nat), (enumT i ts).length = ts.length
  | [], _ => rfl
  | _ :: ts, i => congrArg (· + 1) (enumT_len ts (i + 1))
theorem enumT_get : ∀ {ts : List Tr} {i k : Nat} {u : Tr}, (enumT i ts)[k]? = some u → ∃ t, ts[k]? = some t ∧ u = .tup [.int ((i + k : Nat) : Int), t]
  | [], _, _, _, h => by cases h
  | t :: ts, i, 0, u, h => by cases h; exact ⟨t, rfl, rfl⟩
  | t :: ts, i, k + 1, u, h => by
    obtain ⟨t', h1, h2⟩ := enumT_get (ts := ts) (i := i + 1) (k := k) (by simpa [enumT] using h)
    exact ⟨t', by simpa using h1, by rw [h2, show i + 1 + k = i + (k + 1) by omega]⟩
def enumQ (Q : List Tr → Nat → Prop) : List Tr → Nat → Prop
  | [.lst ts], n => Q (enumT 0 ts) n
  | _, _ => False
def iEnm (l : RA) : RA := fun n ρ Q => l n ρ (enumQ Q)
theorem itv_enum {g : Gb} {F : FH} {a : Addr} {vs : List V} {ts : List Tr} (e : F a = some (.ob (.lst vs))) (r : Reps g F vs ts) : ItV g F (Ite g.K a) (enumT 0 ts) := by
  have sq : ∀ {n F' H}, le F F' → Sub g n F' H → SqL g.K H a vs := fun l s => .inl (.inl (s.at_ (l _ _ e)))
  refine ⟨fun n F' H l s => ⟨vs, sq l s, by rw [r.length, enumT_len]; exact Nat.le_refl _⟩, fun i n F' H hi l s => ?_, fun i t n F' H x H' ht l s y => ?_⟩
  · rw [enumT_len] at hi
    exact ⟨vs, vs[i]'(by rw [r.length]; exact hi), sq l s, List.getElem?_eq_getElem _⟩
  · obtain ⟨u, hu, et⟩ := enumT_get ht
    obtain ⟨q, x', e1, e2, e3, y⟩ := y
    obtain ⟨v, hv, rv⟩ := r.get i hu
    have z := y vs (sq l s)
    rw [hv] at z
    cases z
    subst e1 e3 et
    obtain ⟨f2, s2⟩ := alloc (o := .tup [.int ((i : Nat) : Int), x']) s e2
    exact ⟨_, f2, s2, .tup (.inl (.inl (hp_eq.mpr updF_same))) (.cons (by rw [Nat.zero_add]; exact .int _) (.cons (rv.mono (l.trans f2.le)) .nil))⟩
theorem vi_enum {tpos p : Pos} {elts : List Expr} {kk : Nat} {ta : RA} (hK : X.K = Γ.g.K) (hg : Gl X "enumerate") (hm : X.mg "enumerate" = none) (ha : PA X [e] (lA Γ ta)) (hs : starEach [e] X.env = [(false, eval e X.env)] := by rfl) : PI X (.Tuple elts kk tpos) (.Call (.Name "enumerate" p) [e] [] pos) (lI Γ (iEnm ta)) :=
  PI.imp (pi_enum hg hm ha hs) fun σ H R ⟨ρ, n, F, Q, rel, h, k⟩ => ⟨ρ, n, F, _, rel, h, fun vs ts n1 F1 H1 f1 s1 r1 q1 => by
    match ts, q1, r1 with
    | [.lst us], q1, r1 =>
      obtain ⟨v, rfl, r⟩ := r1.one
      cases r with
      | lst e r => exact ⟨_, _, rfl, by rw [hK]; exact .inl (.inl (s1.at_ e)), by rw [hK]; exact k _ _ n1 F1 H1 f1 s1 (itv_enum e r) q1⟩⟩
/-! ### a display of a dict whose keys are texts -/
def vDctL : List (Str × RE) → Nat → List Sl → (List (Str × Tr) → Nat → Prop) → Prop
  | [], n, _, Q => Q [] n
  | (x, t) :: r, n, ρ, Q => t n ρ fun u n1 => vDctL r n1 ρ fun ps n2 => Q ((x, u) :: ps) n2
def keyd (ps : List (Str × Tr)) : List (Key × Tr) := ps.map fun p => (Sum.inr p.1, p.2)
def vDct (l : List (Str × RE)) : RE := fun n ρ Q => vDctL l n ρ fun ps n1 => Q (.dct (keyd ps)) n1
theorem pairs_in {Γ : Cn} {H0 : Hp} : ∀ {l : List (Str × RE)} {ρ : List Sl} {n : Nat} {F : FH} {σ : L2.St} {H : Hp} {Q : List (Str × Tr) → Nat → Prop} {R : List (V × V) → Hp → Prop}, Rel Γ n ρ F σ H → vDctL l n ρ Q →
    (∀ (vs : List (Str × V)) ts n' F' H', vs.map (·.1) = l.map (·.1) → Fr F H F' H' → Sub Γ.g n' F' H' → RepF Γ.g F' vs ts → Q ts n' → R (vs.map fun p => (V.str p.1, p.2)) H') → tPairs (l.map fun p => (tC (.str p.1), lE Γ p.2)) σ H R
  | [], ρ, n, F, σ, H, Q, R, rel, h, k => k [] [] n F H rfl (Fr.refl _ _) rel.sub .nil h
  | (x, t) :: l, ρ, n, F, σ, H, Q, R, rel, h, k => ⟨ρ, n, F, _, rel, h, fun v u n1 F1 H1 f1 s1 r1 q1 => pairs_in (H0 := H0) (rel.go f1 s1) q1 fun vs ts n2 F2 H2 e f2 s2 r2 q2 =>
      k ((x, v) :: vs) ((x, u) :: ts) n2 F2 H2 (by rw [List.map_cons, List.map_cons, e]) (f1.trans f2) s2 (.cons (r1.mono f2.le) r2) q2⟩
theorem Sub.updD {g : Gb} {n : Nat} {F : FH} {H : Hp} {p : Addr} {kvs : List (Key × V)} {u : HO} (s : Sub g n F H) (e : H p = some (.dK kvs)) (f : F p = none) : Sub g n F (L2.upd H p u) := by
  refine ⟨fun a w h => ?_, fun a h => ?_, tabs_l e ⟨(fun _ z => nomatch z), (fun _ z => nomatch z)⟩ s.tab, s.nt⟩
  · have h' := hp_eq.mp h
    have q : a ≠ p := fun z => by rw [z, f] at h'; cases h'
    rw [upd_ne q]
    exact s.at_ h'
  · obtain ⟨c, ns, k, l, h1, h2, h3⟩ := (s.pen a h).ex
    have q : a ≠ p := fun z => by rw [z, f] at h; cases h
    refine ⟨c, ns, k, l, ?_, h2, h3⟩
    rw [upd_ne q]
    exact h1
theorem putK_new {kvs : List (Key × V)} {k : Key} {v : V} (h : k ∉ kvs.map (·.1)) : putK kvs k v = kvs ++ [(k, v)] := by
  unfold putK
  rw [if_neg]
  intro z
  obtain ⟨p, hp, e⟩ := List.any_eq_true.mp z
  exact h (List.mem_map.mpr ⟨p, hp, of_decide_eq_true e⟩)
theorem mergeK_new : ∀ {more kvs : List (Key × V)}, (kvs.map (·.1) ++ more.map (·.1)).Nodup → mergeK kvs more = kvs ++ more
  | [], kvs, _ => by show kvs = kvs ++ []; rw [List.append_nil]
  | p :: r, kvs, h => by
    have hp : p.1 ∉ kvs.map (·.1) := fun z => by
      rw [List.map_cons] at h
      exact (List.nodup_append.mp h).2.2 _ z _ (by simp) rfl
    show mergeK (putK kvs p.1 p.2) r = _
    rw [putK_new hp, mergeK_new (by rw [List.map_append, List.append_assoc]; exact h), List.append_assoc]
    rfl
theorem RepF.keyd {g : Gb} {F : FH} : ∀ {vs : List (Str × V)} {ts : List (Str × Tr)}, RepF g F vs ts → RepK g F (vs.map fun p => (Sum.inr p.1, p.2)) (VL.keyd ts)
  | _, _, .nil => .nil
  | _, _, .cons r rs => .cons r (RepF.keyd rs)
theorem ve_dct {keys : List (Option Expr)} {values : List Expr} {l : List (Str × RE)} (h : PPs X pos keys values (l.map fun p => (tC (.str p.1), lE Γ p.2))) (hall : keys.all (·.isSome) = true) (hl : keys.length = values.length) (h0 : keys ≠ []) (h15 : keys.length ≤ 15) (hn : (l.map (·.1)).Nodup) (hk : l.length ≤ 15) : PE X (.Dict keys values pos) (lE Γ (vDct l)) :=
  PE.imp (pe_disp h hall hl h0 h15) fun σ H Q' ⟨ρ, n, F, Q, rel, h, k⟩ => fun p hp => by
    obtain ⟨f1, s1⟩ := alloc0 (o := .dK []) rel.sub hp
    have fp := rel.sub.free hp
    refine pairs_in (H0 := H) (rel.go f1 s1) h fun vs ts n2 F2 H2 e2 f2 s2 r2 q2 => ?_
    have ep : H2 p = some (.dK []) := f2.keep p _ upd_same (by rw [fp]; intro z; cases z) (fun ps z => nomatch z)
    have np : F2 p = none := f2.none fp upd_same
    have nd : ((vs.map fun q => ((Sum.inr q.1 : Key), q.2)).map (·.1)).Nodup := by
      rw [List.map_map]
      have : vs.map ((fun q : Key × V => q.1) ∘ fun q => ((Sum.inr q.1 : Key), q.2)) = (l.map (·.1)).map Sum.inr := by rw [← e2, List.map_map]; rfl
      rw [this]
      exact List.Pairwise.map _ (fun a b h z => h (Sum.inr.inj z)) hn
    refine ⟨ep, vs.map fun q => (Sum.inr q.1, q.2), by rw [List.map_map]; rfl, ?_, ?_⟩
    · have := congrArg List.length e2
      rw [List.length_map, List.length_map] at this
      rw [List.length_map]
      omega
    · rw [mergeK_new (by simpa using nd), List.nil_append]
      have s3 := s2.updD (u := .dK (vs.map fun q => (Sum.inr q.1, q.2))) ep np
      obtain ⟨l4, s4⟩ := freeze s3 (o := .dK (vs.map fun q => (Sum.inr q.1, q.2))) upd_same np
      exact k _ _ n2 _ _ (((f1.trans f2).updN (nt_none hp)).frz (nt_none hp) np) s4 (.dct updF_same (r2.mono l4).keyd) q2
def lkD (x : Str) : List (Key × Tr) → Option Tr
  | [] => none
  | (.inr y, t) :: r => if x = y then some t else lkD x r
  | (.inl _, _) :: r => lkD x r
def dgQ (Q : VQ) : Tr → Tr → Nat → Prop
  | .dct kvs, .str x, n => ∃ t, lkD x kvs = some t ∧ Q t n
  | _, _, _ => False
/-- d[x] -/
def vDGet (d y : RE) : RE := fun n ρ Q => d n ρ fun t n1 => y n1 ρ fun u n2 => dgQ Q t u n2
theorem RepK.val {g : Gb} {F : FH} {k : Str} : ∀ {vs : List (Key × V)} {ts : List (Key × Tr)} {t : Tr}, RepK g F vs ts → lkD k ts = some t → ∃ v, valV vs (Sum.inr k) = some v ∧ Rep g F v t
  | _, _, _, .nil, e => by cases e
  | _, _, t, .cons (x := .inl x) r rs, e => by
    obtain ⟨v, h1, h2⟩ := RepK.val rs (show lkD k _ = some t from e)
    exact ⟨v, (valV_neg (p := ((Sum.inl x : Key), _)) (k := Sum.inr k) (fun z => by cases z)).trans h1, h2⟩
  | _, _, t, .cons (x := .inr x) (ts := us) (t := u) r rs, e => by
    have e : (if k = x then some u else lkD k us) = some t := e
    by_cases hx : k = x
    · rw [if_pos hx] at e
      cases e
      subst hx
      exact ⟨_, valV_pos rfl, r⟩
    · rw [if_neg hx] at e
      obtain ⟨v, h1, h2⟩ := RepK.val rs e
      exact ⟨v, by rw [valV_neg (fun z => hx (Sum.inr.inj z).symm)]; exact h1, h2⟩
theorem ve_dget {td ty : RE} (hu : X.A.units + 1 < cLine) (ho : PE X o (lE Γ td)) (hi : PE X i (lE Γ ty)) (hs : NoSl i) : PE X (.Subscript o i pos) (lE Γ (vDGet td ty)) :=
  PE.imp (pe_dget hu ho hi hs) fun σ H Q' ⟨ρ, n, F, Q, rel, h, k⟩ => ⟨ρ, n, F, _, rel, h, fun v t n1 F1 H1 f1 s1 r1 q1 => ⟨ρ, n1, F1, _, rel.go f1 s1, q1, fun v2 t2 n2 F2 H2 f2 s2 r2 q2 => by
    have r1 := r1.mono f2.le
    cases r1 with
    | dct e r =>
      cases r2 with
      | str x =>
        obtain ⟨u, h1, h2⟩ := q2
        obtain ⟨w, h3, h4⟩ := r.val h1
        exact ⟨_, w, rfl, h3 ▸ DGet.k (k := Sum.inr x) (s2.at_ e), ((k.go f1).go f2).here s2 h4 h2⟩
      | _ => exact q2.elim
    | _ => exact q2.elim⟩⟩
/-! ### x = [..] * k, a list that will be changed -/
def repO (i : Nat) (D : VEnds) (ρ : List Sl) (ts : List Tr) : Tr → Nat → Prop
  | .int k, n => (-(2 ^ 63) ≤ k ∧ k < 2 ^ 63 ∧ ts.length * k.toNat ≤ sizeLine) ∧ D.nx n (ρ.set i (.ol (List.replicate k.toNat ts).flatten))
  | _, _ => False
def vSetRep (i : Nat) (l : RA) (t : RE) : RS := fun D n ρ => l n ρ fun ts n1 => ts.length ≤ sizeLine ∧ t n1 ρ (repO i D ρ ts)
theorem vs_setRep {st : Stmt} {j : Nat} {tl : RA} (h : PS X st (tAsg (tOp rRep (tLst (lA Γ tl)) (lE Γ te)) (L2.gName j))) : PS X st (lS Γ (vSetRep j tl te)) :=
  PS.imp h fun D' σ H ⟨ρ, n, F, D, rel, h, ok⟩ => ⟨ρ, n, F, _, rel, h, fun vs ts n1 F1 H1 f1 s1 r1 q1 => ⟨by rw [r1.length]; exact q1.1, fun p hp => by
    obtain ⟨f2, s2⟩ := alloc (o := .lst vs) s1 hp
    have rel2 := (rel.go f1 s1).go f2 s2
    refine ⟨ρ, n1, _, _, rel2, q1.2, fun v2 t2 n3 F3 H3 f3 s3 r3 q3 => ?_⟩
    cases r3 with
    | int k =>
      obtain ⟨⟨q4, q5, q6⟩, q⟩ := q3
      refine ⟨p, k, vs, rfl, rfl, s3.at_ (f3.le _ _ updF_same), q4, q5, by rw [r1.length]; exact q6, fun p2 hp2 => ?_⟩
      exact ok.nx _ n3 F3 _ _ ((f1.le.trans f2.le).trans f3.le) ((rel2.go f3 s3).setO (s1 := .ol (List.replicate k.toNat ts).flatten) hp2 fun a b => ⟨p2, _, rfl, upd_same, a, b, Reps.rep (r1.mono (f2.le.trans f3.le)) _⟩) q
    | _ => exact q3.elim⟩⟩
/-! ### an owned list beside [] -/
def vNeO (i : Nat) : RT := fun n ρ Q => olQ (fun xs => okD (.lst xs) ∧ Q (!xs.isEmpty) n) (gt ρ i)
theorem eqv_nil (xs : List Tr) : (!PyData.eqv (.list (toDs xs)) (.list [])) = !xs.isEmpty := by
  cases xs with
  | nil => rfl
  | cons a r => rfl
theorem vt_neO {j : Nat} (hK : X.K = Γ.g.K) (h : PT X e (tTest (tOp (rNeD X.K) (tVar j) (tLst tNil)))) : PT X e (lT Γ (vNeO j)) :=
  PT.imp h fun σ H Q' ⟨ρ, n, F, Q, rel, h, k⟩ => by
    have h : olQ (fun xs => okD (.lst xs) ∧ Q (!xs.isEmpty) n) (gt ρ j) := h
    cases eg : gt ρ j with
    | ol xs =>
      rw [eg] at h
      obtain ⟨⟨hD, hS⟩, q⟩ := h
      obtain ⟨a, vs, ei, es, h2, h3, h4, h5⟩ := own_get rel eg
      refine ⟨.ref a, es, Nat.zero_le _, fun p hp => ?_⟩
      obtain ⟨f2, s2⟩ := alloc (o := .lst []) rel.sub hp
      refine ⟨.list (toDs xs), .list [], .lst (.inl (.inl (same_upd hp _ _ h2))) (by rw [hK]; exact dp_reps s2 (h5.mono f2.le) hD), .lst (.inl (.inl upd_same)) .nil, hS, rfl, _, rfl, k _ n _ _ f2 s2 ?_⟩
      rw [eqv_nil]
      exact q
    | _ => rw [eg] at h; exact h.elim
end
end VL
/-! (x if c else y).append(e); d.get(x, y) -/
namespace VL
open PySem L2 DS PyProof.Rows
section
variable {X : Cx} {Γ : Cn} {e o i f : Expr} {te : RE} {pos : Pos}
/-- one of two owned lists gets an item -/
def vAppIf (i j : Nat) (c : RT) (e : RE) : RS := fun D n ρ => c n ρ fun b n1 => if b = true then appQ i D ρ e (gt ρ i) n1 else appQ j D ρ e (gt ρ j) n1
theorem app_in {i : Nat} {ρ : List Sl} {n : Nat} {F : FH} {σ : L2.St} {H : Hp} {D : VEnds} {D' : Ends} (rel : Rel Γ n ρ F σ H) (h : appQ i D ρ te (gt ρ i) n) (ok : EndsOk Γ F D D') : tVar i σ H fun x H1 => tyV Γ.g.K "list" x H1 ∧ tCons (lE Γ te) tNil σ H1 fun xs H2 => rAppend x xs H2 fun _ H3 => D'.nx σ H3 := by
  cases eg : gt ρ i with
  | ol xs =>
    rw [eg] at h
    obtain ⟨a, vs, ei, es, h2, h3, h4, h5⟩ := own_get rel eg
    refine ⟨.ref a, es, .inl ⟨rfl, vs, .inl (.inl h2)⟩, ρ, n, F, _, rel, h.2, fun v t n1 F1 H1 f1 s1 r1 q1 => ?_⟩
    have k2 := f1.keep a _ h2 (by rw [h3]; intro z; cases z) (fun ps z => nomatch z)
    have k3 := f1.none h3 h2
    have k5 := h5.mono f1.le
    refine ⟨a, vs, v, rfl, rfl, k2, by rw [k5.length]; exact h.1, ?_⟩
    exact ok.nx _ n1 F1 σ _ f1.le ((rel.go f1 s1).updO (s1 := .ol (xs ++ [t])) ei rfl rfl es k2 (plain_lst _) k3 h4 ⟨a, vs ++ [v], rfl, upd_same, k3, h4, k5.append (.cons r1 .nil)⟩) q1
  | _ => rw [eg] at h; exact h.elim
theorem vs_appIf {st : Stmt} {i j : Nat} {tc : RT} (hK : X.K = Γ.g.K) (h : PS X st (tDrop (tBM X.K "list" rAppend (tIf (lT Γ tc) (tVar i) (tVar j)) (tCons (lE Γ te) tNil)))) : PS X st (lS Γ (vAppIf i j tc te)) :=
  PS.imp h fun D' σ H ⟨ρ, n, F, D, rel, h, ok⟩ => ⟨ρ, n, F, _, rel, h, fun b n1 F1 H1 f1 s1 q1 => by
    rw [hK]
    have rel1 := rel.go f1 s1
    cases b with
    | true => exact iteT (app_in rel1 (show appQ i D ρ te (gt ρ i) n1 from q1) (ok.le f1.le))
    | false => exact iteF (app_in rel1 (show appQ j D ρ te (gt ρ j) n1 from q1) (ok.le f1.le))⟩
/-- d.get(x, y) -/
def gd2Q (Q : VQ) (kvs : List (Key × Tr)) : Tr → Tr → Nat → Prop
  | .str x, w, n => Q ((lkD x kvs).getD w) n
  | _, _, _ => False
def dctQ (k : List (Key × Tr) → Prop) : Tr → Prop
  | .dct kvs => k kvs
  | _ => False
def vDGet2 (d y z : RE) : RE := fun n ρ Q => d n ρ fun t n1 => dctQ (fun kvs => y n1 ρ fun u n2 => z n2 ρ fun w n3 => gd2Q Q kvs u w n3) t
theorem RepK.val2 {g : Gb} {F : FH} {k : Str} : ∀ {vs : List (Key × V)} {ts : List (Key × Tr)} {v : V} {t : Tr}, RepK g F vs ts → Rep g F v t → Rep g F ((valV vs (Sum.inr k)).getD v) ((lkD k ts).getD t)
  | _, _, v, t, .nil, r => r
  | _, _, v, t, .cons (x := .inl x) (ts := us) q qs, r => by
    rw [show valV ((Sum.inl x, _) :: _) (Sum.inr k : Key) = _ from valV_neg (fun z => by cases z)]
    show Rep g F _ ((lkD k us).getD t)
    exact RepK.val2 qs r
  | _, _, v, t, .cons (x := .inr x) (ts := us) (t := u) q qs, r => by
    show Rep g F _ ((if k = x then some u else lkD k us).getD t)
    by_cases hx : k = x
    · subst hx
      rw [if_pos rfl, show valV ((Sum.inr k, _) :: _) (Sum.inr k : Key) = _ from valV_pos rfl]
      exact q
    · rw [if_neg hx, show valV ((Sum.inr x, _) :: _) (Sum.inr k : Key) = _ from valV_neg (fun z => hx (Sum.inr.inj z).symm)]
      exact RepK.val2 qs r
theorem ve_dget2 {apos : Pos} {td ty tx : RE} (hu : X.A.units + 1 < cLine) (ho : PE X o (lE Γ td)) (he : PE X e (lE Γ ty)) (hf : PE X f (lE Γ tx)) (m : M2 X o "get" apos e f pos) : PE X (.Call (.Attribute o "get" apos) [e, f] [] pos) (lE Γ (vDGet2 td ty tx)) :=
  PE.imp (pe_dget2 hu ho he hf m) fun σ H Q' ⟨ρ, n, F, Q, rel, h, k⟩ => ⟨ρ, n, F, _, rel, h, fun v t n1 F1 H1 f1 s1 r1 q1 => by
    cases r1 with
    | dct ea r =>
      rename_i a vs ts
      refine ⟨a, rfl, .inl ⟨_, .inl (s1.at_ ea)⟩, ρ, n1, F1, _, rel.go f1 s1, q1, fun v2 t2 n2 F2 H2 f2 s2 r2 q2 => ⟨ρ, n2, F2, _, (rel.go f1 s1).go f2 s2, q2, fun v3 t3 n3 F3 H3 f3 s3 r3 q3 => ?_⟩⟩
      have r2 := r2.mono f3.le
      cases r2 with
      | str x =>
        have l := f2.le.trans f3.le
        refine ⟨valV vs (Sum.inr x), DGet.k (k := Sum.inr x) (s3.at_ (l _ _ ea)), ?_⟩
        exact (((k.go f1).go f2).go f3).here s3 ((r.mono l).val2 r3) q3
      | _ => exact q3.elim
    | _ => exact q1.elim⟩
end
end VL
/-! for i in range(a, b), whatever the size of a and b -/
namespace L2
open PySem PySem.Spec PyProof.Rows
/-- what is walked one by one, with ints, is an iterator of the hand layer -/
theorem turn_walks {P : Program} {w : World} {K : PySem.W.Frag} {tg : Expr} {it : Addr} {n : Nat} {lo : Int} {cl : String} {St : Nat → Heap → Prop}
    (W : ∀ A : Around, A.handled = none → Walks P w A it [it] [it] n (fun i v => ∃ t, v = .int (lo + (i : Nat) * 1) t) St)
    (hf : ∀ i h, St i h → ∃ o vs, h.get? it = some o ∧ o.cls = .type cl ∧ o.data = .fields vs)
    (hk : ∀ i h h', St i h → (∀ b ∈ [it], ∀ o, h.get? b = some o → h'.get? b = some o) → St i h')
    (hs : ∀ (A : Around) i (s : Shared) (Q : Value → Shared → Prop) (E : Value → Shared → Prop), St i s.heap → Q (.ref it) s → wpAny (model P w) A (pyIter (.ref it)) Q E s)
    (hc : ["enumerate", "zip", "dict_itemiterator", "dict_reverseitemiterator", "odict_iterator", "itertools.zip_longest", "itertools.pairwise"].contains cl = false) :
    Turn P w K tg (Itr lo n) [it] it (fun i h => St i h ∧ i ≤ n) := by
  constructor
  case mem => exact List.mem_singleton.mpr rfl
  case obj =>
    intro i h ⟨st, _⟩ b hb
    cases List.mem_singleton.mp hb
    obtain ⟨o, vs, e, _, d⟩ := hf i h st
    exact ⟨o, e, fun v z => nomatch d.symm.trans z⟩
  case keep => exact fun i h h' st k => ⟨hk i h h' st.1 k, st.2⟩
  case self => exact fun A i s Q E st q => hs A i s Q E st.1 q
  case item =>
    rintro X rfl rfl rfl calm i pins s σ H E I fp ⟨st, _⟩ (hi : i < n)
    have own := fp it (List.mem_singleton.mpr rfl)
    refine (W X.A (I.ok.hd calm)).item i s _ _ hi st ?_
    rintro v h' tk ⟨t, rfl⟩ st' kept
    have I' := I.turned (t' := tk) (it := it) (h' := h') (fun b o nb e => kept b o (fun z => nb (List.mem_singleton.mp z)) e) own.1 own.2.1 own.2.2.2.1 own.2.2.2.2.1 own.2.2.2.2.2
    obtain ⟨o, vs, e, c, d⟩ := hf _ _ st'
    exact ⟨_, rfl, go_of (s := { s with heap := h', toks := tk }) e c d hc ⟨.int (lo + (i : Nat) * 1), H, I', ⟨t, rfl⟩, ⟨rfl, congrArg (fun z => V.int (lo + z)) (Int.mul_one _)⟩, ⟨st', hi⟩, fun b hb => (fp b hb).1⟩⟩
  case done =>
    rintro X rfl rfl rfl calm i pins s σ H E I fp ⟨st, le⟩ (hi : n ≤ i)
    cases Nat.le_antisymm le hi
    have own := fp it (List.mem_singleton.mpr rfl)
    exact (W X.A (I.ok.hd calm)).done s _ _ st fun h' tk kept => ⟨rfl, I.turned (it := it) (fun b o nb e => kept b o (fun z => nb (List.mem_singleton.mp z)) e) own.1 own.2.1 own.2.2.2.1 own.2.2.2.2.1 own.2.2.2.2.2⟩
section
variable {X : Cx} {tg : Expr}
/-- the iterator of a range that has just been made -/
theorem rng_any {pins : List (Addr × Obj)} {σ : St} {H : Hp} {s : Shared} {R : It → Hp → Prop} {E : Value → Shared → Prop} {lo hi : Int} {r : Addr} {t u v : Tok} (calm : X.calm = true) (I : Inv X pins σ H s) (hr : IsRange s.heap r lo hi 1 t u v) (q : R (Itr lo (hi - lo).toNat) H) :
    wpAny (model X.prog X.w) X.A (pyIter (.ref r)) (PIE X pins σ tg R) E s := by
  have size : (((hi - lo).toNat : Nat) : Int) - ((0 : Nat) : Int) = Builtin.Range.rangeSize lo hi 1 := by
    rw [rangeSize_one]
    split <;> omega
  have first : lo + ((0 : Nat) : Int) * 1 = lo := by omega
  have young : ∀ o : Obj, ∀ b ∈ [s.heap.objs.size], FpOk X pins H b := fun o b hb => by
    cases List.mem_singleton.mp hb
    exact I.fpOk (Nat.le_refl _) (I.hok.fresh (Nat.le_refl _))
  by_cases sm : Builtin.Range.small lo hi 1 = true
  · refine wpAny_pyIter_range hr sm ?_
    refine ⟨_, _, _, _, H, rfl, I.kept fun b o e => Heap.get?_push_of_some _ e, turn_range _ lo _, ?_, young { cls := .type "range_iterator", data := .fields #[] }, q⟩
    show _ = _
    rw [first, size]
    exact Heap.get?_push_size _ rfl
  · refine wpAny_pyIter_longrange hr (Bool.eq_false_iff.mpr sm) ?_
    refine ⟨_, _, _, _, H, rfl, I.kept fun b o e => Heap.get?_push_of_some _ e,
      turn_walks (lo := lo) (n := (hi - lo).toNat) (cl := "longrange_iterator") (fun A hh => Walks.longrange hh _ lo 1 _) (fun i h st => ⟨_, _, st, rfl, rfl⟩) (fun i h h' st k => k _ (List.mem_singleton.mpr rfl) _ st) (fun A i s Q E st q => wpAny_pyIter_longiter st q) (by decide), ⟨?_, Nat.zero_le _⟩, young { cls := .type "range_iterator", data := .fields #[] }, q⟩
    show _ = _
    rw [first, size]
    exact Heap.get?_push_size _ rfl
theorem pi_rngL {a b : Expr} {ta : TA} {p pos : Pos} (calm : X.calm = true) (hg : Gl X "range") (hm : X.mg "range" = none) (ha : PA X [a, b] ta) (hs : starEach [a, b] X.env = [(false, eval a X.env), (false, eval b X.env)] := by rfl) (hs2 : starEach [b] X.env = [(false, eval b X.env)] := by rfl) :
    PI X tg (.Call (.Name "range" p) [a, b] [] pos) (fun σ H R => ta σ H fun vs H1 => ∃ i j : Int, vs = [.int i, .int j] ∧ R (Itr i (j - i).toNat) H1) := by
  constructor
  intro pins s σ H R I h
  have args := thn (Q' := fun us s1 => ∃ (i j : Int) (t u : Tok) (H1 : Hp), us = [.int i t, .int j u] ∧ Inv X pins σ H1 s1 ∧ R (Itr i (j - i).toNat) H1) (ha.run pos pins s σ H _ I h) (by
    rintro us s1 ⟨vs, H1, I1, r1, i, j, rfl, q⟩
    cases r1 with | cons x r1 => cases r1 with | cons y r1 => cases r1 with | nil =>
      obtain ⟨t, rfl⟩ := x
      obtain ⟨u, rfl⟩ := y
      exact ⟨i, j, t, u, H1, rfl, I1, q⟩)
  refine Call_ (ld_blt I hg hm boot_range ?_)
  refine PyProof.Rows.callWith_type1 (he := by rw [hs, hs2]) (hplain := by rw [hs2]; rfl) (thn args ?_)
  rintro us s1 ⟨i, j, t, u, H1, rfl, I1, q⟩
  exact call_range_2 (rng_any calm (I1.kept fun b o e => Heap.get?_push_of_some _ e) (IsRange.new ..) q)
end
end L2
namespace VL
open PySem L2 DS PyProof.Rows
section
variable {X : Cx} {Γ : Cn} {e : Expr} {te : RE} {pos : Pos}
def rngLQ (Q : List Tr → Nat → Prop) : List Tr → Nat → Prop
  | [.int i, .int j], n => Q (rngT i (j - i).toNat) n
  | _, _ => False
def iRngL (l : RA) : RA := fun n ρ Q => l n ρ (rngLQ Q)
theorem vi_rangeL {tg a b : Expr} {ta : RA} {p : Pos} (hc : X.calm = true) (hg : Gl X "range") (hm : X.mg "range" = none) (ha : PA X [a, b] (lA Γ ta)) (hs : starEach [a, b] X.env = [(false, eval a X.env), (false, eval b X.env)] := by rfl) (hs2 : starEach [b] X.env = [(false, eval b X.env)] := by rfl) : PI X tg (.Call (.Name "range" p) [a, b] [] pos) (lI Γ (iRngL ta)) :=
  PI.imp (pi_rngL hc hg hm ha hs hs2) fun σ H R ⟨ρ, n, F, Q, rel, h, k⟩ => ⟨ρ, n, F, _, rel, h, fun vs ts n1 F1 H1 f1 s1 r1 q1 => by
    match ts, q1, r1 with
    | [.int i, .int j], q1, r1 =>
      cases r1 with | cons r r2 => cases r with | int => cases r2 with | cons r r2 => cases r with | int => cases r2 with | nil => exact ⟨i, j, rfl, k _ _ n1 F1 H1 f1 s1 (itv_rng _ _) q1⟩⟩
/-- a or b, where a is told by its truth -/
def orK (t : Tr) (b : RE) (n : Nat) (ρ : List Sl) (Q : VQ) : Option Bool → Prop
  | some k => brE k (vC t) b n ρ Q
  | none => False
def vOrT (a b : RE) : RE := fun n ρ Q => a n ρ fun t n1 => orK t b n1 ρ Q (truT t)
theorem ve_orT {a b : Expr} {rest : List Expr} {ta tb : RE} (hK : X.K = Γ.g.K) (ha : PE X a (lE Γ ta)) (hb : PE X (.BoolOp .Or (b :: rest) pos) (lE Γ tb)) : PE X (.BoolOp .Or (a :: b :: rest) pos) (lE Γ (vOrT ta tb)) :=
  PE.imp (pe_orT ha hb) fun σ H Q' ⟨ρ, n, F, Q, rel, h, kk⟩ => ⟨ρ, n, F, _, rel, h, fun v t n1 F1 H1 f1 s1 r1 q1 => by
    have q1 : orK t tb n1 ρ Q (truT t) := q1
    cases e : truT t with
    | none => rw [e] at q1; exact q1.elim
    | some k =>
      rw [e] at q1
      refine ⟨k, by rw [hK]; exact tru_rep s1 r1 e, ?_⟩
      cases k with
      | true => exact iteT ((kk.go f1).here s1 r1 q1)
      | false => exact iteF ⟨ρ, n1, F1, _, rel.go f1 s1, q1, kk.go f1⟩⟩
end
end VL
/-! list(range(n)) -/
namespace VL
open PySem L2 DS PyProof.Rows
section
variable {X : Cx} {Γ : Cn} {e : Expr} {te : RE} {pos p : Pos}
def lrg1Q (Q : VQ) : Tr → Nat → Prop
  | .int j, n => RgOk 0 j ∧ Q (.lst (rngT 0 j.toNat)) n
  | _, _ => False
def vLRg1 (e : RE) : RE := fun n ρ Q => e n ρ (lrg1Q Q)
theorem reps_rng {g : Gb} {F : FH} {j : Int} : Reps g F (rgV 0 j) (rngT 0 j.toNat) := by
  have e : rngT 0 j.toNat = ((List.range j.toNat).map fun i : Nat => (0 + (i : Int))).map Tr.int := by unfold rngT; rw [List.map_map]; rfl
  have e2 : rgV 0 j = ((List.range j.toNat).map fun i : Nat => (0 + (i : Int))).map V.int := by unfold rgV; rw [Int.sub_zero, List.map_map]; rfl
  rw [e, e2]
  exact Reps.of_ints _
theorem ve_listRg {a : Expr} (hc : X.calm = true) (hg : Gl X "list") (hm : X.mg "list" = none) (hg2 : Gl X "range") (hm2 : X.mg "range" = none) (ha : PE X a (lE Γ te)) (na : starEach [a] X.env = (false, eval a X.env) :: starEach [] X.env := by rfl)
    {p2 p3 : Pos} (nc : starEach [Expr.Call (.Name "range" p2) [a] [] p3] X.env = (false, eval (Expr.Call (.Name "range" p2) [a] [] p3) X.env) :: starEach [] X.env := by rfl) {p4 : Pos} :
    PE X (.Call (.Name "list" p4) [.Call (.Name "range" p2) [a] [] p3] [] pos) (lE Γ (vLRg1 te)) :=
  PE.imp (pe_listRg hc hg hm (prg_1 hg2 hm2 ha na) nc) fun σ H Q' ⟨ρ, n, F, Q, rel, h, k⟩ => ⟨ρ, n, F, _, rel, h, fun v t n1 F1 H1 f1 s1 r1 q1 => by
    cases r1 with
    | int j =>
      have q1 : RgOk 0 j ∧ Q (.lst (rngT 0 j.toNat)) n1 := q1
      refine ⟨j, rfl, q1.1, fun p hp => ?_⟩
      obtain ⟨f2, s2⟩ := alloc (o := .lst (rgV 0 j)) s1 hp
      exact (k.go f1) _ _ n1 _ _ f2 s2 (.lst updF_same reps_rng) q1.2
    | _ => exact q1.elim⟩
/-! x = a + b, a list that will be changed -/
def catO (i : Nat) (D : VEnds) (ρ : List Sl) : Tr → Tr → Nat → Prop
  | .lst xs, .lst ys, n => xs.length + ys.length ≤ sizeLine ∧ D.nx n (ρ.set i (.ol (xs ++ ys)))
  | _, _, _ => False
def vSetCat (i : Nat) (a b : RE) : RS := fun D n ρ => a n ρ fun t n1 => b n1 ρ (catO i D ρ t)
theorem vs_setCat {st : Stmt} {j : Nat} {ta tb : RE} (h : PS X st (tAsg (tOp rCat (lE Γ ta) (lE Γ tb)) (L2.gName j))) : PS X st (lS Γ (vSetCat j ta tb)) :=
  PS.imp h fun D' σ H ⟨ρ, n, F, D, rel, h, ok⟩ => ⟨ρ, n, F, _, rel, h, fun v1 t1 n1 F1 H1 f1 s1 r1 q1 => ⟨ρ, n1, F1, _, rel.go f1 s1, q1, fun v2 t2 n2 F2 H2 f2 s2 r2 q2 => by
    have r1' := r1.mono f2.le
    cases r1' with
    | lst e1 z1 => cases r2 with
      | lst e2 z2 =>
        have q2 : _ ∧ _ := q2
        refine ⟨_, _, _, _, rfl, rfl, s2.at_ e1, s2.at_ e2, by rw [z1.length, z2.length]; exact q2.1, fun p hp => ?_⟩
        exact ok.nx _ n2 F2 _ _ (f1.le.trans f2.le) (((rel.go f1 s1).go f2 s2).setO (s1 := .ol _) hp fun a b => ⟨p, _, rfl, upd_same, a, b, z1.append z2⟩) q2.2
      | _ => exact q2.elim
    | _ => exact q2.elim⟩⟩
/-! == of tuples that hold instances -/
def vEqT (C : Addr) (ok : List (Str × Tr) → Prop) (k : Nat) : VR2
  | .tup ts, .tup us, n, Q => ts = us ∧ (∀ t ∈ ts, NiceG C ok k t) ∧ Q (.bl true) n
  | _, _, _, _ => False
theorem ov_eqT {C : Addr} {ok : List (Str × Tr) → Prop} {m k : Nat} (hK : X.K = Γ.g.K) (hI : ∀ fs, ok fs → RcG X m (DT Γ.g (.ins C fs))) (hr : Room (m + k + 1) X.A) : OpR X (compareOp .Eq) (lR Γ (vEqT C ok k)) := by
  intro pins s σ H x y v u Q' I rx ry ⟨n, F, tx, ty, Q, okk, fr, sb, r1, r2, q, kk⟩
  cases r1 with
  | tup e1 q1 => cases r2 with
    | tup e2 q2 =>
      obtain ⟨same, nice, q⟩ := q
      cases same
      exact op_eqG (rcG_tup' hK fun t mt => eqG_tree hK hI (nice t mt)) hr pins s σ H _ _ v u Q' I rx ry ⟨⟨F, n, sb, .tup e1 q1, .tup e2 q2⟩, fun H' e => kk _ _ n F H' (Fr.ofSame e) (sb.ofSame e) (.bl true) q⟩
    | _ => exact q.elim
  | _ => exact q.elim
end
end VL
/-! x in d, where d is a dict of texts -/
namespace VL
open PySem L2 DS PyProof.Rows
section
variable {X : Cx} {Γ : Cn} {i o : Expr} {ty td : RE} {pos : Pos}
def dinQ (neg : Bool) (R : Bool → Nat → Prop) : Tr → Tr → Nat → Prop
  | .str x, .dct kvs, n => R (if neg then !(lkD x kvs).isSome else (lkD x kvs).isSome) n
  | _, _, _ => False
def vDin (neg : Bool) (y d : RE) : RT := fun n ρ R => y n ρ fun u n1 => d n1 ρ fun t n2 => dinQ neg R u t n2
theorem RepK.gone {g : Gb} {F : FH} {k : Str} : ∀ {vs : List (Key × V)} {ts : List (Key × Tr)}, RepK g F vs ts → lkD k ts = none → valV vs (Sum.inr k) = none
  | _, _, .nil, _ => rfl
  | _, _, .cons (x := .inl x) r rs, e => (valV_neg (p := ((Sum.inl x : Key), _)) (k := Sum.inr k) (fun z => by cases z)).trans (RepK.gone rs (show lkD k _ = none from e))
  | _, _, .cons (x := .inr x) (ts := us) (t := u) r rs, e => by
    have e : (if k = x then some u else lkD k us) = none := e
    by_cases hx : k = x
    · rw [if_pos hx] at e
      cases e
    · rw [if_neg hx] at e
      rw [valV_neg (fun z => hx (Sum.inr.inj z).symm)]
      exact RepK.gone rs e
theorem RepK.some_ {g : Gb} {F : FH} {k : Str} {vs : List (Key × V)} {ts : List (Key × Tr)} (r : RepK g F vs ts) : (valV vs (Sum.inr k)).isSome = (lkD k ts).isSome := by
  cases e : lkD k ts with
  | none => rw [r.gone e]; rfl
  | some t =>
    obtain ⟨v, h, _⟩ := r.val e
    rw [h]; rfl
theorem vt_din (hu : X.A.units + 1 < cLine) (hi : PE X i (lE Γ ty)) (ho : PE X o (lE Γ td)) (hm : behindInMarks .In o = false) : PT X (.Compare i [.In] [o] pos) (lT Γ (vDin false ty td)) :=
  PT.imp (pt_cmp (pc_din hu hi ho) hm) fun σ H Q' ⟨ρ, n, F, R, rel, h, k⟩ => ⟨ρ, n, F, _, rel, h, fun v t n1 F1 H1 f1 s1 r1 q1 => ⟨ρ, n1, F1, _, rel.go f1 s1, q1, fun v2 t2 n2 F2 H2 f2 s2 r2 q2 => by
    have r1 := r1.mono f2.le
    cases r1 with
    | str x =>
      cases r2 with
      | dct e r =>
        refine ⟨_, _, rfl, DGet.k (k := Sum.inr x) (s2.at_ e), _, rfl, ?_⟩
        rw [r.some_]
        exact k _ n2 F2 H2 (f1.trans f2) s2 q2
      | _ => exact q2.elim
    | _ => cases t2 <;> exact q2.elim⟩⟩
theorem vt_dnotin (hu : X.A.units + 1 < cLine) (hi : PE X i (lE Γ ty)) (ho : PE X o (lE Γ td)) (hm : behindInMarks .NotIn o = false) : PT X (.Compare i [.NotIn] [o] pos) (lT Γ (vDin true ty td)) :=
  PT.imp (pt_cmp (pc_dnotin hu hi ho) hm) fun σ H Q' ⟨ρ, n, F, R, rel, h, k⟩ => ⟨ρ, n, F, _, rel, h, fun v t n1 F1 H1 f1 s1 r1 q1 => ⟨ρ, n1, F1, _, rel.go f1 s1, q1, fun v2 t2 n2 F2 H2 f2 s2 r2 q2 => by
    have r1 := r1.mono f2.le
    cases r1 with
    | str x =>
      cases r2 with
      | dct e r =>
        refine ⟨_, _, rfl, DGet.k (k := Sum.inr x) (s2.at_ e), _, rfl, ?_⟩
        rw [r.some_]
        exact k _ n2 F2 H2 (f1.trans f2) s2 q2
      | _ => exact q2.elim
    | _ => cases t2 <;> exact q2.elim⟩⟩
end
end VL
/-! a list that is lent: while an expression is reckoned an owned list is frozen, behind it it is owned again; a comprehension's list that will be changed -/
namespace VL
open PySem L2 DS PyProof.Rows
def notIns : Tr → Bool
  | .non => true
  | .bl _ => true
  | .int _ => true
  | .str _ => true
  | .tup _ => true
  | .lst _ => true
  | _ => false
mutual
/-- no list in it begins with an instance -/
inductive Clr : Tr → Prop
  | non : Clr .non
  | bl (b : Bool) : Clr (.bl b)
  | int (i : Int) : Clr (.int i)
  | str (x : Str) : Clr (.str x)
  | tup {ts : List Tr} (h : Clrs ts) : Clr (.tup ts)
  | lst {t : Tr} {ts : List Tr} (n : notIns t = true) (h : Clrs (t :: ts)) : Clr (.lst (t :: ts))
  | ins {C : Addr} {fs : List (Str × Tr)} (h : ClrF fs) : Clr (.ins C fs)
  | pen : Clr .pen
inductive Clrs : List Tr → Prop
  | nil : Clrs []
  | cons {t : Tr} {ts : List Tr} (h : Clr t) (r : Clrs ts) : Clrs (t :: ts)
inductive ClrF : List (Str × Tr) → Prop
  | nil : ClrF []
  | cons {x : Str} {t : Tr} {ts : List (Str × Tr)} (h : Clr t) (r : ClrF ts) : ClrF ((x, t) :: ts)
end
theorem Clrs.of : ∀ {ts : List Tr}, (∀ t ∈ ts, Clr t) → Clrs ts
  | [], _ => .nil
  | t :: ts, h => .cons (h t (List.mem_cons_self ..)) (Clrs.of fun u m => h u (List.mem_cons_of_mem _ m))
theorem Clr.tup_ {ts : List Tr} (c : Clr (.tup ts)) : Clrs ts := by cases c; assumption
theorem Clr.lst_ {ts : List Tr} (c : Clr (.lst ts)) : Clrs ts := by cases c; assumption
theorem Clr.ins_ {C : Addr} {fs : List (Str × Tr)} (c : Clr (.ins C fs)) : ClrF fs := by cases c; assumption
theorem Clr.dct_ {kvs : List (Key × Tr)} (c : Clr (.dct kvs)) : False := by cases c
theorem Clr.opq_ {v : V} (c : Clr (.opq v)) : False := by cases c
theorem Clr.scr_ {ns : List Int} (c : Clr (.scr ns)) : False := by cases c
theorem Clrs.hd_ {t : Tr} {ts : List Tr} (c : Clrs (t :: ts)) : Clr t := by cases c; assumption
theorem Clrs.tl_ {t : Tr} {ts : List Tr} (c : Clrs (t :: ts)) : Clrs ts := by cases c; assumption
theorem ClrF.hd_ {x : Str} {t : Tr} {ts : List (Str × Tr)} (c : ClrF ((x, t) :: ts)) : Clr t := by cases c; assumption
theorem ClrF.tl_ {x : Str} {t : Tr} {ts : List (Str × Tr)} (c : ClrF ((x, t) :: ts)) : ClrF ts := by cases c; assumption
def cutF (F : FH) (a : Addr) : FH := fun b => if b = a then none else F b
theorem cutF_ne {F : FH} {a b : Addr} (h : b ≠ a) : cutF F a b = F b := by unfold cutF; rw [if_neg h]
theorem cutF_of {F : FH} {a b : Addr} {o : FO} (h : cutF F a b = some o) : b ≠ a ∧ F b = some o := by
  unfold cutF at h
  split at h
  · cases h
  · rename_i n
    exact ⟨n, h⟩
theorem hp_cut {F : FH} {a b : Addr} {o : HO} (h : hp F b = some o) (n : b ≠ a) : hp (cutF F a) b = some o := hp_eq.mpr (by rw [cutF_ne n]; exact hp_eq.mp h)
section
variable {g : Gb} {F : FH} {a b C dx : Addr} {vs : List V} {fvs : List (Str × V)}
theorem sqT_cut (ha : F a = some (.ob (.lst vs))) {c : Addr} {us : List V} (q : SqT g.K (hp F) c us) : SqT g.K (hp (cutF F a)) c us := by
  have ne : ∀ {o : HO}, hp F c = some o → (∀ zs, o ≠ .lst zs) → c ≠ a := fun e no z => by
    subst z
    rw [hp_eq.mpr ha] at e
    cases e
    exact no _ rfl
  rcases q with (q | ⟨o, q⟩) | q
  · exact .inl (.inl (hp_cut q (ne q (fun zs z => nomatch z))))
  · exact .inl (.inr ⟨o, hp_cut q (ne q (fun zs z => nomatch z))⟩)
  · exact .inr q
theorem ins_cut (ha : F a = some (.ob (.lst vs))) {c C dx : Addr} {fs : List (Str × V)} (h : F c = some (.ob (.ins C dx fs))) : cutF F a c = some (.ob (.ins C dx fs)) := by
  have q : c ≠ a := fun z => by subst z; rw [ha] at h; cases h
  rw [cutF_ne q]
  exact h
theorem pen_cut (ha : F a = some (.ob (.lst vs))) {c : Addr} (h : F c = some .pen) : cutF F a c = some .pen := by
  have q : c ≠ a := fun z => by subst z; rw [ha] at h; cases h
  rw [cutF_ne q]
  exact h
theorem lst_ne (ha : F a = some (.ob (.lst (.ref b :: vs)))) (hb : F b = some (.ob (.ins C dx fvs))) (hk : g.K.lookup b = none) {c : Addr} {us : List V} {ts : List Tr} (h : F c = some (.ob (.lst us))) (r : Reps g F us ts) (cl : Clr (.lst ts)) : c ≠ a := by
  intro q
  subst q
  rw [ha] at h
  cases h
  cases r with
  | cons r1 rs =>
    cases cl with
    | lst n _ =>
      cases r1 with
      | tup h' _ =>
        rcases h' with (q | ⟨o, q⟩) | ⟨o, its, m, q, _⟩
        · rw [hp_eq.mpr hb] at q; cases q
        · rw [hp_eq.mpr hb] at q; cases q
        · rw [hk] at q; cases q
      | lst h' _ => rw [hb] at h'; cases h'
      | dct _ _ => cases n
      | ins _ _ _ => cases n
      | opq _ => cases n
      | pen _ => cases n
      | scr _ => cases n
mutual
theorem Rep.thaw (ha : F a = some (.ob (.lst (.ref b :: vs)))) (hb : F b = some (.ob (.ins C dx fvs))) (hk : g.K.lookup b = none) : ∀ {v : V} {t : Tr}, Rep g F v t → Clr t → Rep g (cutF F a) v t
  | _, _, .non, _ => .non
  | _, _, .bl b, _ => .bl b
  | _, _, .int i, _ => .int i
  | _, _, .str x, _ => .str x
  | _, _, .tup h r, c => .tup (sqT_cut ha h) (Reps.thaw ha hb hk r c.tup_)
  | _, _, .lst h r, c => .lst (by rw [cutF_ne (lst_ne ha hb hk h r c)]; exact h) (Reps.thaw ha hb hk r c.lst_)
  | _, _, .dct h r, c => c.dct_.elim
  | _, _, .ins h cl r, c => .ins (ins_cut ha h) cl (RepF.thaw ha hb hk r c.ins_)
  | _, _, .opq v, c => c.opq_.elim
  | _, _, .pen h, _ => .pen (pen_cut ha h)
  | _, _, .scr h, c => c.scr_.elim
theorem Reps.thaw (ha : F a = some (.ob (.lst (.ref b :: vs)))) (hb : F b = some (.ob (.ins C dx fvs))) (hk : g.K.lookup b = none) : ∀ {us : List V} {ts : List Tr}, Reps g F us ts → Clrs ts → Reps g (cutF F a) us ts
  | _, _, .nil, _ => .nil
  | _, _, .cons r rs, c => .cons (Rep.thaw ha hb hk r c.hd_) (Reps.thaw ha hb hk rs c.tl_)
theorem RepF.thaw (ha : F a = some (.ob (.lst (.ref b :: vs)))) (hb : F b = some (.ob (.ins C dx fvs))) (hk : g.K.lookup b = none) : ∀ {us : List (Str × V)} {ts : List (Str × Tr)}, RepF g F us ts → ClrF ts → RepF g (cutF F a) us ts
  | _, _, .nil, _ => .nil
  | _, _, .cons r rs, c => .cons (Rep.thaw ha hb hk r c.hd_) (RepF.thaw ha hb hk rs c.tl_)
end
theorem Sub.cut {n : Nat} {H : Hp} (s : Sub g n F H) (ha : F a = some (.ob (.lst (.ref b :: vs)))) : Sub g n (cutF F a) H := by
  refine ⟨fun x o e => ?_, fun x e => ?_, s.tab, fun x ps e => ?_⟩
  · exact s.at_ (cutF_of (hp_eq.mp e)).2
  · obtain ⟨c, ns, k, l, h1, h2, h3⟩ := (s.pen x (cutF_of e).2).ex
    have q : c ≠ a := fun z => by
      subst z
      rw [ha] at h2
      cases ns with
      | nil => cases h2
      | cons _ _ => cases h2
    exact ⟨c, ns, k, l, h1, by rw [cutF_ne q]; exact h2, h3⟩
  · exact s.nt x ps (cutF_of e).2
end
theorem Fr.cut {F F' : FH} {H H' : Hp} {a : Addr} {o : HO} (f : Fr (updF F a (.ob o)) H F' H') (h3 : F a = Option.none) : Fr F H (cutF F' a) H' := by
  have nt1 : ∀ x, x ≠ a → updF F a (.ob o) x = F x := fun x n => updF_ne n
  refine ⟨fun x u e => ?_, fun x e => ?_, fun x u e np no => ?_, f.there⟩
  · have n : x ≠ a := fun z => by rw [z, h3] at e; cases e
    rw [cutF_ne n]
    exact f.le _ _ (by rw [nt1 x n]; exact e)
  · cases hx : cutF F' a x with
    | none => exact absurd hx e
    | some u =>
      obtain ⟨n, e'⟩ := cutF_of hx
      rcases f.fresh x (by rw [e']; intro z; cases z) with z | z
      · rw [nt1 x n] at z
        exact .inl z
      · exact .inr z
  · refine f.keep x u e (fun z => ?_) no
    by_cases n : x = a
    · subst n
      rw [updF_same] at z
      cases z
    · rw [nt1 x n] at z
      exact np z
section
variable {X : Cx} {Γ : Cn} {e : Expr} {te : RE} {pos : Pos} {i : Nat}
def lendQ (te : RE) (i n : Nat) (ρ : List Sl) (Q : VQ) : Sl → Prop
  | .ol xs => (∃ C fs r, xs = .ins C fs :: r) ∧ te n (ρ.set i (.v (.lst xs))) fun t n1 => Clr t ∧ Q t n1
  | _ => False
/-- e, while the owned list of a slot (its first item an instance) is lent -/
def vLend (i : Nat) (te : RE) : RE := fun n ρ Q => lendQ te i n ρ Q (gt ρ i)
theorem ve_lend (hK : X.K = Γ.g.K) (h : PE X e (lE Γ te)) : PE X e (lE Γ (vLend i te)) := ⟨fun pins s σ H Q' I ⟨ρ, n, F, Q, rel, q, k⟩ => by
  have q : lendQ te i n ρ Q (gt ρ i) := q
  cases eg : gt ρ i with
  | ol xs =>
    rw [eg] at q
    obtain ⟨⟨C, fs, r, rfl⟩, q⟩ := q
    obtain ⟨a, vs, ei, es, h2, h3, h4, h5⟩ := own_get rel eg
    cases h5 with
    | cons r1 rs =>
      cases r1 with
      | ins e1 c1 rf =>
        rename_i ws b dx fvs
        have eb : H b = some (.ins C dx fvs) := rel.sub.at_ e1
        have hk : Γ.g.K.lookup b = none := by
          rw [← hK]
          cases hl : X.K.lookup b with
          | none => rfl
          | some o =>
            have := (I.bs b o (I.ok.mod.kin b o hl)).2
            rw [eb] at this
            cases this
        have l1 := le_updF (o := FO.ob (.lst (.ref b :: ws))) h3
        have rel' := rel.frzK ei rfl es h2 (fun _ z => nomatch z) h3 h4 (t := .lst (.ins C fs :: r)) (fun F' l e => .lst e ((Reps.cons (.ins e1 c1 rf) rs).mono l))
        refine h.run pins s σ H Q' I ⟨_, n, _, _, rel', q, fun v t n' F' H' f' s' r' ⟨c, q'⟩ => ?_⟩
        have eb' : F' b = some (.ob (.ins C dx fvs)) := f'.le _ _ (l1 _ _ e1)
        have ea' : F' a = some (.ob (.lst (.ref b :: ws))) := f'.le _ _ updF_same
        exact k v t n' (cutF F' a) H' (f'.cut h3) (s'.cut ea') (r'.thaw ea' eb' hk c) q'
  | _ => rw [eg] at q; exact q.elim⟩
def lendT (tt : RT) (i n : Nat) (ρ : List Sl) (Q : Bool → Nat → Prop) : Sl → Prop
  | .ol xs => (∃ C fs r, xs = .ins C fs :: r) ∧ tt n (ρ.set i (.v (.lst xs))) Q
  | _ => False
def vTLend (i : Nat) (tt : RT) : RT := fun n ρ Q => lendT tt i n ρ Q (gt ρ i)
theorem vt_lend {tt : RT} (hK : X.K = Γ.g.K) (h : PT X e (lT Γ tt)) : PT X e (lT Γ (vTLend i tt)) := ⟨fun pins s σ H Q' I ⟨ρ, n, F, Q, rel, q, k⟩ => by
  have q : lendT tt i n ρ Q (gt ρ i) := q
  cases eg : gt ρ i with
  | ol xs =>
    rw [eg] at q
    obtain ⟨⟨C, fs, r, rfl⟩, q⟩ := q
    obtain ⟨a, vs, ei, es, h2, h3, h4, h5⟩ := own_get rel eg
    cases h5 with
    | cons r1 rs =>
      cases r1 with
      | ins e1 c1 rf =>
        rename_i ws b dx fvs
        have eb : H b = some (.ins C dx fvs) := rel.sub.at_ e1
        have hk : Γ.g.K.lookup b = none := by
          rw [← hK]
          cases hl : X.K.lookup b with
          | none => rfl
          | some o =>
            have := (I.bs b o (I.ok.mod.kin b o hl)).2
            rw [eb] at this
            cases this
        have l1 := le_updF (o := FO.ob (.lst (.ref b :: ws))) h3
        have rel' := rel.frzK ei rfl es h2 (fun _ z => nomatch z) h3 h4 (t := .lst (.ins C fs :: r)) (fun F' l e => .lst e ((Reps.cons (.ins e1 c1 rf) rs).mono l))
        refine h.run pins s σ H Q' I ⟨_, n, _, _, rel', q, fun b' n' F' H' f' s' q' => ?_⟩
        have ea' : F' a = some (.ob (.lst (.ref b :: ws))) := f'.le _ _ updF_same
        exact k b' n' (cutF F' a) H' (f'.cut h3) (s'.cut ea') q'
  | _ => rw [eg] at q; exact q.elim⟩
theorem Rel.ownAt {n : Nat} {ρ : List Sl} {F : FH} {σ : L2.St} {H : Hp} (r : Rel Γ n ρ F σ H) {i : Nat} {D : Addr} {avs : List V} {acc : List Tr} (e : H D = some (.lst avs)) (nF : F D = none) (h0 : nt Γ.H0 D = none) (aw : ∀ (j : Nat) s, ρ[j]? = some s → isOwn s = true → σ[j]? ≠ some (some (.ref D))) (ra : Reps Γ.g F avs acc) : Rel Γ n (ρ.set i (.ol acc)) F (σ.set i (some (.ref D))) H := by
  have get : ∀ (j : Nat) s, (ρ.set i (.ol acc))[j]? = some s → (j = i ∧ s = .ol acc ∧ (σ.set i (some (.ref D)))[j]? = some (some (.ref D))) ∨ (j ≠ i ∧ ρ[j]? = some s ∧ (σ.set i (some (.ref D)))[j]? = σ[j]?) := fun j s e => by
    by_cases q : j = i
    · subst q
      rw [List.getElem?_set, if_pos rfl] at e
      split at e
      · rename_i hl
        cases e
        refine .inl ⟨rfl, rfl, ?_⟩
        rw [List.getElem?_set, if_pos rfl, if_pos (by rw [← r.len]; exact hl)]
      · cases e
    · rw [List.getElem?_set_ne (Ne.symm q)] at e
      exact .inr ⟨q, e, List.getElem?_set_ne (Ne.symm q)⟩
  refine ⟨r.ok, r.fr, r.sub, by simp [r.len], fun j s ej => ?_, fun j k b s w ne ej ek oj ok sj sk => ?_⟩
  · rcases get j s ej with ⟨rfl, rfl, g3⟩ | ⟨q, ej', g3⟩
    · exact ⟨_, g3, D, avs, rfl, e, nF, h0, ra⟩
    · rw [g3]; exact r.sl j s ej'
  · rcases get j s ej with ⟨rfl, rfl, g3⟩ | ⟨q, ej', g3⟩
    · rcases get k w ek with ⟨rfl, rfl, g4⟩ | ⟨q2, ek', g4⟩
      · exact ne rfl
      · rw [g3] at sj; cases sj
        rw [g4] at sk
        exact aw k w ek' ok sk
    · rcases get k w ek with ⟨rfl, rfl, g4⟩ | ⟨q2, ek', g4⟩
      · rw [g4] at sk; cases sk
        rw [g3] at sj
        exact aw j s ej' oj sj
      · rw [g3] at sj; rw [g4] at sk
        exact r.dis j k b s w ne ej' ek' oj ok sj sk
def lstO (i : Nat) (D : VEnds) (ρ : List Sl) : VQ
  | .lst xs, n => D.nx n (ρ.set i (.ol xs))
  | _, _ => False
/-- x = [.. for ..], a list that will be changed -/
def vSetLcO (i : Nat) (t : RE) : RS := fun D n ρ => t n ρ (lstO i D ρ)
theorem vs_setLcO {y : Str} {py spos : Pos} {elt tg iter : Expr} {ifs : List Expr} {scope : Scope} {own : List (Str × Nat)} {it : RA} {g : RG} {tt : RT} (hc : X.calm = true) (hN : X.N.Nodup) (hy : X.N[i]? = some y) (hyl : X.env.scope.names.lookup y = some .local)
    (hsw : swapsWith (.ListComp elt [⟨tg, iter, ifs, 0⟩] scope pos) (some (.Name y py)) spos.line X.env = pure true) (hi : PI X tg iter (lI Γ it)) (ok : BlkOk X.N X.env.scope scope own)
    (hg : ∀ (s : Shared) (H : Hp) (C : Addr) (cl : List (Str × Addr)) (fp : List Addr), PG (X.blk s H scope (compEnvC scope cl C X.env) fp) tg (lG Γ.nox (own.map (·.2)) g)) (ht : ∀ (s : Shared) (H : Hp) (C : Addr) (cl : List (Str × Addr)) (fp : List Addr), PTs (X.blk s H scope (compEnvC scope cl C X.env) fp) ifs (lT Γ.nox tt))
    (he : ∀ (s : Shared) (H : Hp) (C : Addr) (cl : List (Str × Addr)) (fp : List Addr), PE (X.blk s H scope (compEnvC scope cl C X.env) fp) elt (lE Γ.nox te)) (hs : ∀ x, foldedSetIterable iter X.env x = pure x := by intro _; rfl) :
    PS X (.Assign [.Name y py] (.ListComp elt [⟨tg, iter, ifs, 0⟩] scope pos) spos) (lS Γ (vSetLcO i (vLc it g tt te (own.map (·.2))))) :=
  PS.imp (ps_setLc hc hN hy hyl hsw hi ok hg ht he hs) fun D' σ H h => by
    obtain ⟨ρ, n, F, D, rel, h, ok⟩ := h
    refine lc_raw rel h fun B avs acc n1 F1 H1 f1 s1 eB nB h0 ra q => ?_
    have rel1 := rel.go f1 s1
    refine ok.nx _ n1 F1 _ H1 f1.le (rel1.ownAt (i := i) eB nB ?_ (fun j s ej oj z => ?_) ra) q
    · cases q2 : nt Γ.H0 B with
      | none => rfl
      | some w => exact absurd h0 (rel.fr.there B (by rw [q2]; intro z; cases z))
    · obtain ⟨x, h2, h3⟩ := rel.sl j s ej
      rw [z] at h2
      cases h2
      have : ∃ u, H B = some u ∧ ∀ ps, u ≠ .tbl ps := by
        cases s with
        | un => cases oj
        | v t => cases oj
        | ol xs => obtain ⟨a, vs, e', h, _⟩ := h3; cases e'; exact ⟨_, h, fun ps z => nomatch z⟩
        | oi C a dx fs => obtain ⟨fvs, e', h, _⟩ := h3; cases e'; exact ⟨_, h, fun ps z => nomatch z⟩
        | od kvs => obtain ⟨a, vs, e', h, _⟩ := h3; cases e'; exact ⟨_, h, fun ps z => nomatch z⟩
      obtain ⟨u, hu, no⟩ := this
      rw [nt_some hu no] at h0
      cases h0
end
end VL
/-! several except clauses, each with a name or without one -/
namespace VTM
open PySem PySem.Spec PyProof.Rows L2
/-- a clause: its class, the slot of its name, what its suite does -/
structure Clz where
  c : Value
  slot : Option Nat
  deed : Addr → Value → Option Addr → TS
/-- behind a suite its name is gone -/
def gone (D : Ends) (i : Nat) : Ends := ⟨fun σ H => D.nx (σ.set i none) H, D.rt, fun σ H => D.bk (σ.set i none) H, fun σ H => D.ct (σ.set i none) H⟩
def Clz.want (q : Clz) (a : Addr) (cls : Value) (d : Option Addr) (D : Ends) (σ : L2.St) (H : Hp) : Prop :=
  match q.slot with
  | none => q.deed a cls d D σ H
  | some i => q.deed a cls d (gone D i) (σ.set i (some (.ref a))) H
def wMix (K : PySem.W.Frag) (Wout : WX) (D : Ends) : List Clz → WX
  | [] => Wout
  | q :: r => fun cls d σ H => ∃ b, PySem.W.exmOne K cls q.c = some b ∧ if b = true then ∀ a, H a = none → q.want a cls d D σ H else wMix K Wout D r cls d σ H
/-- what a clause's suite keeps -/
def Deeds (X : Cx) (q : Clz) (body : List Stmt) : Prop := ∀ (a : Addr) (oe : Obj) (cls : Value) (d : Option Addr) (pn : List (Addr × Obj)), Zc cls d oe → (∃ vs, oe.data = .fields vs) → PSs (X.suite a ((a, oe) :: pn)) body (q.deed a cls d)
inductive Clauses (X : Cx) : List ExceptHandler → List Clz → Prop
  | nil : Clauses X [] []
  | bare {x : Str} {q : Clz} {b : Stmt} {bs : List Stmt} {np pos : Pos} {hds : List ExceptHandler} {l : List Clz} : q.slot = none → Names X x q.c → Deeds X q (b :: bs) → Clauses X hds l → Clauses X (.ExceptHandler (some (.Name x np)) none (b :: bs) pos :: hds) (q :: l)
  | named {x n : Str} {i : Nat} {q : Clz} {b : Stmt} {bs : List Stmt} {np pos : Pos} {hds : List ExceptHandler} {l : List Clz} : q.slot = some i → X.N[i]? = some n → X.env.kindOf n = some .local → Names X x q.c → Deeds X q (b :: bs) → Clauses X hds l → Clauses X (.ExceptHandler (some (.Name x np)) (some n) (b :: bs) pos :: hds) (q :: l)
/-- an exception that is looked at by the clauses: sI is the state without it -/
structure Down (X : Cx) (pins : List (Addr × Obj)) (σ : L2.St) (H : Hp) (B : Heap) (sI s : Shared) (a : Addr) (cls : Value) (d : Option Addr) : Prop where
  inv : Inv X pins σ H sI
  bar : ∀ b o, sI.heap.get? b = some o → b ∉ frs X.stack → B.get? b = some o
  slot : sI.heap.UpToSlots s.heap
  fly : HandSPX.FlyingZ B (X.env :: X.outer) a (Zc cls d) s.heap
  new : H a = none
  os : s.os = sI.os
  ag : AllBare s.gens
section
variable {X : Cx} {pins : List (Addr × Obj)} {σ : L2.St} {H : Hp} {B : Heap} {sI s : Shared} {a : Addr} {cls : Value} {d : Option Addr}
theorem Down.move (x : Down X pins σ H B sI s a cls d) {h : Heap} (f : HandSPX.FlyingZ B (X.env :: X.outer) a (Zc cls d) h) (u : s.heap.UpToSlots h) : Down X pins σ H B sI { s with heap := h } a cls d :=
  { x with slot := x.slot.trans u, fly := f }
theorem Down.now (x : Down X pins σ H B sI s a cls d) : Inv X pins σ H s := Inv.landed x.inv x.bar x.fly.1 x.slot x.os x.ag
theorem Down.looks (x : Down X pins σ H B sI s a cls d) : PySem.W.Looks (model X.prog X.w) s.heap (typeOf (.ref a)) cls := by
  obtain ⟨oe, _, g, z, _⟩ := HandSPX.FlyingZ.there x.fly
  intro _ _ _ _ keep q
  refine wpAny_typeOf_ref (keep a oe g) ?_
  rw [show oe.cls = cls from z.1]
  exact q
theorem Down.shown (x : Down X pins σ H B sI s a cls d) (hf : X.env.frame = some X.env.locals) : ∃ oe, Zc cls d oe ∧ (∃ vs, oe.data = .fields vs) ∧ Inv (X.suite a ((a, oe) :: (X.pn ++ pins))) [] σ H s := by
  obtain ⟨oe, vs, g, z, dt⟩ := HandSPX.FlyingZ.there x.fly
  have far : a ∉ frs (X.env :: X.outer) := fun m => by
    obtain ⟨_, o, g', no⟩ := Heap.FunFrames.mem x.fly.2.2.1 m
    rw [g] at g'
    cases g'
    exact no vs dt
  refine ⟨oe, z, ⟨vs, dt⟩, Inv.suite x.now g dt x.new (fun e => far ?_) fun m => far ?_⟩
  · exact List.mem_filterMap.mpr ⟨X.env, .head _, hf.trans (congrArg some e.symm)⟩
  · obtain ⟨v, mv, q⟩ := List.mem_filterMap.mp m
    exact List.mem_filterMap.mpr ⟨v, .tail _ mv, q⟩
/-- no clause is left -/
theorem Down.off {Wout : WX} (x : Down X pins σ H B sI s a cls d) (hs : X.stack = X.env :: X.outer) (hf : X.env.frame = some X.env.locals) (tk : Takes X Wout) (w : Wout cls d σ H) {Q : Flow → Shared → Prop} : wpAny (model X.prog X.w) X.A (handleBy (.ref a) X.env []) Q X.xe s := by
  refine wpAny_handleBy_nil ?_
  obtain ⟨oe, vs, t, _, _, g, _, dt, f1, _⟩ := x.fly.2.2.2
  have up : wpAny (model X.prog X.w) X.A (setFlight (.ref a) X.env.frame) (fun _ u => wpAny (model X.prog X.w) X.A (throw (.ref a) : Sem Flow) Q X.xe u) X.xe s := by
    rw [hf]
    refine HandSPX.setFlight_upZ x.fly fun h he u => wpAny_throw (tk _ _ ⟨a, B, sI, pins, σ, H, cls, d, rfl, x.inv, x.bar, x.slot.trans u, ?_, x.new, x.os, x.ag, w⟩)
    rw [hs]
    exact .inr (.inr he)
  unfold PySem.passOn
  refine wpAny_bind (wpAny_field g dt f1 ?_)
  rw [if_neg (by simp)]
  first
    | exact wpAny_bind up
    | exact wpAny_bind (wpAny_pure (wpAny_bind up))
/-- the test of a clause -/
theorem Down.test (x : Down X pins σ H B sI s a cls d) (hf : X.env.frame = some X.env.locals) {n : Str} {c : Value} {b : Bool} {np : Pos} (nm : Names X n c) (hb : PySem.W.exmOne X.K cls c = some b) {Q : Bool → Shared → Prop} {E E' : Value → Shared → Prop} (q : Q b s) :
    wpAny (model X.prog X.w) (X.A.mark (some (.ref a))) (eval (.Name n np) X.env) (fun v u => wpAny (model X.prog X.w) (X.A.mark (some (.ref a))) (excMatches (.ref a) v) Q E u) E' s := by
  obtain ⟨oe, _, _, S⟩ := x.shown hf
  have m := PySem.W.exm_one (M := model X.prog X.w) x.now.kIn x.looks hb
  obtain ⟨gl, nd, k⟩ := nm
  rcases k with k | ⟨k, kb, kn⟩
  · exact ld_glob (X := X.suite a ((a, oe) :: (X.pn ++ pins))) S gl k (m.here q) nd
  · exact ld_blt (X := X.suite a ((a, oe) :: (X.pn ++ pins))) S gl k kb (m.here q) kn nd
/-- the clauses, one after the other -/
theorem Down.go {Wout : WX} {D : Ends} (hs : X.stack = X.env :: X.outer) (hf : X.env.frame = some X.env.locals) (hN : X.N.Nodup) (tk : Takes X Wout) {hds : List ExceptHandler} {l : List Clz} (k : Clauses X hds l) :
    ∀ {s : Shared}, Down X pins σ H B sI s a cls d → wMix X.K Wout D l cls d σ H → wpAny (model X.prog X.w) X.A (handleBy (.ref a) X.env hds) (SP X pins D) X.xe s := by
  induction k with
  | nil => exact fun x w => x.off hs hf tk w
  | @bare n q b bs np pos hds l ns nm dd _ ih =>
    rintro s x ⟨t, ht, w⟩
    refine wpAny_handleBy_cons (codeAny_handlers_test (x.test hf nm ht ?_)) nofun
    cases t with
    | false => exact ih x w
    | true =>
      have w := w a x.new
      unfold Clz.want at w
      rw [ns] at w
      refine codeAny_handlers_suite (HandSPX.lands_againZ x.fly fun h f u => ?_)
      have x := x.move f u
      obtain ⟨oe, z, dt, S⟩ := x.shown hf
      have ok := x.inv.ok
      refine wpAny_mono ((dd a oe cls d _ z dt).run [] _ σ H D S w) (fun r v sp => ?_) fun _ _ no => no.elim
      cases r with
      | ret y =>
        obtain ⟨y', σ', H', J, e, done⟩ := sp
        exact ⟨y', σ', H', J.unsuite ok, e, done⟩
      | next => obtain ⟨σ', H', J, done⟩ := sp; exact ⟨σ', H', J.unsuite ok, done⟩
      | brk => obtain ⟨σ', H', J, done⟩ := sp; exact ⟨σ', H', J.unsuite ok, done⟩
      | cont => obtain ⟨σ', H', J, done⟩ := sp; exact ⟨σ', H', J.unsuite ok, done⟩
  | @named n v i q b bs np pos hds l ns hi lo nm dd _ ih =>
    rintro s x ⟨t, ht, w⟩
    refine wpAny_handleBy_cons (codeAny_handlers_test (x.test hf nm ht ?_)) nofun
    cases t with
    | false => exact ih x w
    | true =>
      have w := w a x.new
      unfold Clz.want at w
      rw [ns] at w
      refine codeAny_handlers_suite_as (HandSPX.lands_againZ x.fly fun h f u => ?_)
      have x := x.move f u
      obtain ⟨oe, z, dt, S⟩ := x.shown hf
      have ok := x.inv.ok
      refine store_ok (X := X.suite a ((a, oe) :: (X.pn ++ pins))) S hN hi (.inl lo) (v := .ref a) rfl (fun s5 S5 => ?_) (.inr lo)
      refine wpAny_mono ((dd a oe cls d _ z dt).run [] s5 _ H (gone D i) S5 w) (fun r v sp => ?_) fun _ _ no => no.elim
      cases r with
      | ret y =>
        obtain ⟨y', σ', H', J, e, done⟩ := sp
        exact gone_ok (J.unsuite ok) hN hi lo fun s7 J7 => ⟨y', _, H', J7, e, done⟩
      | next => obtain ⟨σ', H', J, done⟩ := sp; exact gone_ok (J.unsuite ok) hN hi lo fun s7 J7 => ⟨_, H', J7, done⟩
      | brk => obtain ⟨σ', H', J, done⟩ := sp; exact gone_ok (J.unsuite ok) hN hi lo fun s7 J7 => ⟨_, H', J7, done⟩
      | cont => obtain ⟨σ', H', J, done⟩ := sp; exact gone_ok (J.unsuite ok) hN hi lo fun s7 J7 => ⟨_, H', J7, done⟩
end
/-- try: body, except clauses -/
theorem ps_try_mix {X : Cx} {body : List Stmt} {h₀ : ExceptHandler} {hds : List ExceptHandler} {l : List Clz} {pos : Pos} {tb : WX → TS} {Wout : WX} (hs : X.stack = X.env :: X.outer) (hf : X.env.frame = some X.env.locals) (hN : X.N.Nodup) (tk : Takes X Wout)
    (hb : ∀ (W : WX) (pn : List (Addr × Obj)) (xe : Value → Shared → Prop), Takes (X.tr pn xe) W → PassesOwn (model X.prog X.w) X.A X.env xe → PSs (X.tr pn xe) body (tb W)) (k : Clauses X (h₀ :: hds) l) :
    PS X (.Try body (h₀ :: hds) [] [] pos) (fun D σ H => tb (wMix X.K Wout D l) D σ H) := by
  refine ⟨fun pins s σ H D I start => ?_⟩
  have ok := I.ok
  have fr : X.A.frames = some (X.env :: X.outer) := by rw [← hs]; exact ok.frames
  let xe : Value → Shared → Prop := fun e s₁ => wpAny (model X.prog X.w) X.A (noteFrame e X.env) (fun _ s₂ => wpAny (model X.prog X.w) X.A (setFlight e none) (fun _ s₃ => wpAny (model X.prog X.w) X.A (handleBy e X.env (h₀ :: hds)) (SP X pins D) X.xe s₃) X.xe s₂) X.xe s₁
  have caught : Takes (X.tr (X.pn ++ pins) xe) (wMix X.K Wout D l) := by
    rintro _ s' ⟨a, B, sI, pins', σ', H', cls, d, rfl, J, bar, slot, sky, new, os, ag, w⟩
    rw [show (X.tr (X.pn ++ pins) xe).stack = X.env :: X.outer from hs] at sky
    exact Sky.land Zc.steady fr hf sky fun h f u => Down.go hs hf hN tk k ⟨J.ofTry ok, bar, slot.trans u, f, new, os, ag⟩ w
  refine wpAny_Try_except (wpAny_mono ((hb _ _ xe caught PassesOwn.looking).run [] s σ H D (I.toTry _) start) (fun r v sp => ?_) fun _ _ c => c)
  cases r with
  | ret y =>
    obtain ⟨y', σ', H', J, e, done⟩ := sp
    exact ⟨y', σ', H', J.ofTry ok, e, done⟩
  | next => obtain ⟨σ', H', J, done⟩ := sp; exact wpAny_execs_nil ⟨σ', H', J.ofTry ok, done⟩
  | brk => obtain ⟨σ', H', J, done⟩ := sp; exact ⟨σ', H', J.ofTry ok, done⟩
  | cont => obtain ⟨σ', H', J, done⟩ := sp; exact ⟨σ', H', J.ofTry ok, done⟩
end VTM
/-! owned dicts with ints as keys; raise C(); a def that tells what a lambda raises, by two clauses -/
namespace VL
open PySem L2 DS PyProof.Rows
section
variable {X : Cx} {Γ : Cn} {st : Stmt} {te tk : RE} {C : Addr} {e o i f : Expr} {x : Str} {pos : Pos}
/-- raise C(), C an own exception without fields -/
def vRaise0 (C : Addr) (x : XQ) : RS := fun _ n _ => x C [] n
theorem vs_raise0 (h : PS X st (fun _ _ H => Γ.E (.ref C) none H)) : PS X st (lS Γ (vRaise0 C Γ.x)) :=
  PS.imp h fun D' σ H ⟨ρ, n, F, D, rel, h, ok⟩ => rel.ok.out C none [] [] n F H rel.fr rel.sub rfl .nil h
/-! ### dicts -/
/-- the items of a dict of ints, seen as a map -/
def lkI (k : Int) : List (Key × Tr) → Option Tr
  | [] => none
  | (.inl j, t) :: r => if k = j then some t else lkI k r
  | (.inr _, _) :: r => lkI k r
def putI (k : Int) (t : Tr) : List (Key × Tr) → List (Key × Tr)
  | [] => [(.inl k, t)]
  | (.inl j, u) :: r => if k = j then (.inl j, t) :: r else (.inl j, u) :: putI k t r
  | (.inr x, u) :: r => (.inr x, u) :: putI k t r
theorem putK_nil (k : Key) (v : V) : putK ([] : List (Key × V)) k v = [(k, v)] := rfl
/-- each key once -/
def OnceK {α : Type} (l : List (Key × α)) : Prop := (l.map (·.1)).Nodup
theorem putI_len (k : Int) (t : Tr) : ∀ l : List (Key × Tr), (putI k t l).length ≤ l.length + 1
  | [] => Nat.le_refl _
  | (.inl j, u) :: r => by
    unfold putI
    split
    · exact Nat.le_succ _
    · exact Nat.succ_le_succ (putI_len k t r)
  | (.inr x, u) :: r => Nat.succ_le_succ (putI_len k t r)
theorem putI_keys (k : Int) (t : Tr) : ∀ (l : List (Key × Tr)) (a : Key), a ∈ (putI k t l).map (·.1) → a = .inl k ∨ a ∈ l.map (·.1)
  | [], a, h => .inl (List.mem_singleton.mp h)
  | (.inl j, u) :: r, a, h => by
    unfold putI at h
    split at h
    · exact .inr h
    · rcases List.mem_cons.mp h with h | h
      · exact .inr (by rw [h]; exact List.mem_cons_self ..)
      · exact (putI_keys k t r a h).imp id fun z => List.mem_cons_of_mem _ z
  | (.inr x, u) :: r, a, h => by
    rcases List.mem_cons.mp h with h | h
    · exact .inr (by rw [h]; exact List.mem_cons_self ..)
    · exact (putI_keys k t r a h).imp id fun z => List.mem_cons_of_mem _ z
theorem OnceK.put (k : Int) (t : Tr) : ∀ {l : List (Key × Tr)}, OnceK l → OnceK (putI k t l)
  | [], _ => by unfold OnceK putI; simp
  | (.inl j, u) :: r, h => by
    obtain ⟨h1, h2⟩ := List.nodup_cons.mp h
    unfold putI
    split
    · exact h
    · rename_i ne
      refine List.nodup_cons.mpr ⟨fun z => ?_, OnceK.put k t h2⟩
      rcases putI_keys k t r _ z with z | z
      · exact ne (Sum.inl.inj z).symm
      · exact h1 z
  | (.inr x, u) :: r, h => by
    obtain ⟨h1, h2⟩ := List.nodup_cons.mp h
    refine List.nodup_cons.mpr ⟨fun z => ?_, OnceK.put k t h2⟩
    rcases putI_keys k t r _ z with z | z
    · cases z
    · exact h1 z
theorem lkI_none {k : Int} : ∀ {l : List (Key × Tr)}, Sum.inl k ∉ l.map (·.1) → lkI k l = none
  | [], _ => rfl
  | (.inl j, u) :: r, h => by
    unfold lkI
    rw [if_neg (fun z => h (by rw [z]; exact List.mem_cons_self ..))]
    exact lkI_none fun z => h (List.mem_cons_of_mem _ z)
  | (.inr x, u) :: r, h => lkI_none (l := r) fun z => h (List.mem_cons_of_mem _ z)
theorem lkI_put (k j : Int) (t : Tr) : ∀ l : List (Key × Tr), lkI j (putI k t l) = if j = k then some t else lkI j l
  | [] => rfl
  | (.inl i, u) :: r => by
    unfold putI
    by_cases c : k = i
    · subst c
      rw [if_pos rfl]
      show (if j = k then some t else lkI j r) = if j = k then some t else if j = k then some u else lkI j r
      split <;> rfl
    · rw [if_neg c]
      show (if j = i then some u else lkI j (putI k t r)) = if j = k then some t else if j = i then some u else lkI j r
      rw [lkI_put k j t r]
      by_cases d : j = i
      · rw [if_pos d, if_pos d, if_neg (fun z => c (z.symm.trans d))]
      · rw [if_neg d, if_neg d]
  | (.inr x, u) :: r => lkI_put k j t r
theorem RepK.keys {g : Gb} {F : FH} : ∀ {vs : List (Key × V)} {ts : List (Key × Tr)}, RepK g F vs ts → vs.map (·.1) = ts.map (·.1)
  | _, _, .nil => rfl
  | _, _, .cons _ rs => by rw [List.map_cons, List.map_cons, rs.keys]
theorem RepK.len {g : Gb} {F : FH} {vs : List (Key × V)} {ts : List (Key × Tr)} (r : RepK g F vs ts) : vs.length = ts.length := by
  have := congrArg List.length r.keys
  rwa [List.length_map, List.length_map] at this
/-- what putK does to a list of pairs -/
theorem putK_cons {k j : Key} {v u : V} {r : List (Key × V)} (hn : OnceK ((j, u) :: r)) : putK ((j, u) :: r) k v = if j = k then (j, v) :: r else (j, u) :: putK r k v := by
  obtain ⟨h1, _⟩ := List.nodup_cons.mp hn
  unfold putK
  by_cases c : j = k
  · subst c
    rw [if_pos rfl, List.any_cons, decide_eq_true rfl, Bool.true_or, if_pos rfl, List.map_cons, if_pos rfl]
    congr 1
    refine (List.map_congr_left fun p hp => ?_).trans (List.map_id _)
    rw [if_neg (fun z => h1 (by rw [← z]; exact List.mem_map.mpr ⟨p, hp, rfl⟩))]
    rfl
  · rw [if_neg c, List.any_cons, decide_eq_false c, Bool.false_or]
    split
    · rw [List.map_cons, if_neg c]
    · rw [List.cons_append]
theorem RepK.put {g : Gb} {F : FH} {k : Int} {v : V} {t : Tr} (q : Rep g F v t) : ∀ {vs : List (Key × V)} {ts : List (Key × Tr)}, RepK g F vs ts → OnceK vs → RepK g F (putK vs (.inl k) v) (putI k t ts)
  | _, _, .nil, _ => .cons q .nil
  | _, _, .cons (x := .inl j) (vs := vs) (ts := ts) r rs, hn => by
    rw [putK_cons hn]
    unfold putI
    by_cases c : k = j
    · subst c
      rw [if_pos rfl, if_pos rfl]
      exact .cons q rs
    · rw [if_neg (fun z => c (Sum.inl.inj z).symm), if_neg c]
      exact .cons r (RepK.put q rs (List.nodup_cons.mp hn).2)
  | _, _, .cons (x := .inr y) (vs := vs) (ts := ts) r rs, hn => by
    rw [putK_cons hn, if_neg (fun z => by cases z)]
    exact .cons r (RepK.put q rs (List.nodup_cons.mp hn).2)
theorem RepK.valI {g : Gb} {F : FH} {k : Int} : ∀ {vs : List (Key × V)} {ts : List (Key × Tr)} {v : V} {t : Tr}, RepK g F vs ts → Rep g F v t → Rep g F ((valV vs (.inl k)).getD v) ((lkI k ts).getD t)
  | _, _, v, t, .nil, r => r
  | _, _, v, t, .cons (x := .inr y) (ts := us) q qs, r => by
    rw [show valV ((Sum.inr y, _) :: _) (Sum.inl k : Key) = _ from valV_neg (fun z => by cases z)]
    show Rep g F _ ((lkI k us).getD t)
    exact RepK.valI qs r
  | _, _, v, t, .cons (x := .inl j) (ts := us) (t := u) q qs, r => by
    show Rep g F _ ((if k = j then some u else lkI k us).getD t)
    by_cases c : k = j
    · subst c
      rw [if_pos rfl, show valV ((Sum.inl k, _) :: _) (Sum.inl k : Key) = _ from valV_pos rfl]
      exact q
    · rw [if_neg c, show valV ((Sum.inl j, _) :: _) (Sum.inl k : Key) = _ from valV_neg (fun z => c (Sum.inl.inj z).symm)]
      exact RepK.valI qs r
/-- x = {}, to be changed -/
def vSetD (i : Nat) : RS := fun D n ρ => D.nx n (ρ.set i (.od []))
theorem vs_setD {j : Nat} {pos' p3 p2 : Pos} (hN : X.N.Nodup) (hi : X.N[j]? = some x) (hx : Loc X.env.scope x) (hs2 : swapsWith (.Dict [] [] p2) (some (.Name x p3)) pos.line X.env = pure false := by rfl) (hf : X.fn x = true ∨ X.env.scope.names.lookup x = some .local := by first | exact .inl rfl | exact .inr rfl | assumption) :
    PS X (.Assign [.Name x p3] (.Dict [] [] p2) pos) (lS Γ (vSetD j)) := PS.imp (ps_set hN hi hx pe_dnewK hs2 hf) fun D' σ H ⟨ρ, n, F, D, rel, h, ok⟩ =>
  fun p hp => ok.nx _ n F _ _ (le.refl F) (rel.setO (s1 := .od []) hp fun a b => ⟨p, [], rfl, upd_same, a, b, .nil⟩) h
theorem own_getD {n : Nat} {ρ : List Sl} {F : FH} {σ : L2.St} {H : Hp} (rel : Rel Γ n ρ F σ H) {i : Nat} {xs : List (Key × Tr)} (eg : gt ρ i = .od xs) : ∃ a vs, ρ[i]? = some (.od xs) ∧ σ[i]? = some (some (.ref a)) ∧ H a = some (.dK vs) ∧ F a = none ∧ nt Γ.H0 a = none ∧ RepK Γ.g F vs xs := by
  have ei := gt_get eg (fun z => nomatch z)
  obtain ⟨o, h1, a, vs, e, h2, h3, h4, h5⟩ := rel.sl i _ ei
  subst e
  exact ⟨a, vs, ei, h1, h2, h3, h4, h5⟩
/-- d[k] = e, d owned, k an int -/
def putDK (i : Nat) (D : VEnds) (ρ : List Sl) (xs : List (Key × Tr)) (t : Tr) : Tr → Nat → Prop
  | .int k, n => OnceK xs ∧ xs.length < sizeLine ∧ D.nx n (ρ.set i (.od (putI k t xs)))
  | _, _ => False
def putDQ (i : Nat) (D : VEnds) (ρ : List Sl) (k e : RE) : Sl → Nat → Prop
  | .od xs, n => e n ρ fun t n1 => k n1 ρ fun j n2 => putDK i D ρ xs t j n2
  | _, _ => False
def vPutD (i : Nat) (k e : RE) : RS := fun D n ρ => putDQ i D ρ k e (gt ρ i) n
theorem vs_putD {i : Nat} (h : PS X st (sDPut (tVar i) (lE Γ tk) (lE Γ te))) : PS X st (lS Γ (vPutD i tk te)) :=
  PS.imp h fun D' σ H ⟨ρ, n, F, D, rel, h, ok⟩ => by
    have h : putDQ i D ρ tk te (gt ρ i) n := h
    cases eg : gt ρ i with
    | od xs =>
      rw [eg] at h
      refine ⟨ρ, n, F, _, rel, h, fun v t n1 F1 H1 f1 s1 r1 q1 => ?_⟩
      have rel1 := rel.go f1 s1
      obtain ⟨a, vs, ei, es, h2, h3, h4, h5⟩ := own_getD rel1 eg
      refine ⟨.ref a, es, ρ, n1, F1, _, rel1, q1, fun v2 t2 n2 F2 H2 f2 s2 r2 q2 => ?_⟩
      have k2 := f2.keep a _ h2 (by rw [h3]; intro z; cases z) (fun ps z => nomatch z)
      have k3 := f2.none h3 h2
      have k5 := h5.mono f2.le
      cases r2 with
      | int j =>
        obtain ⟨on, ln, q⟩ := q2
        have onV : OnceK vs := by unfold OnceK; rw [k5.keys]; exact on
        refine ⟨a, _, rfl, DPut.k (k := .inl j) k2 (by rw [k5.len]; exact ln), ?_⟩
        exact ok.nx _ n2 F2 σ _ (f1.le.trans f2.le) ((rel1.go f2 s2).updO (s1 := .od (putI j t xs)) ei rfl rfl es k2 (plain_dK _) k3 h4 ⟨a, _, rfl, upd_same, k3, h4, RepK.put (r1.mono f2.le) k5 onV⟩) q
      | _ => exact q2.elim
    | _ => rw [eg] at h; exact h.elim
/-- d.get(k, y), d owned, k an int -/
def getIQ (Q : VQ) (xs : List (Key × Tr)) : Tr → Tr → Nat → Prop
  | .int k, w, n => Q ((lkI k xs).getD w) n
  | _, _, _ => False
def getDQ (ρ : List Sl) (Q : VQ) (k y : RE) : Sl → Nat → Prop
  | .od xs, n => k n ρ fun u n1 => y n1 ρ fun w n2 => getIQ Q xs u w n2
  | _, _ => False
def vGetD (i : Nat) (k y : RE) : RE := fun n ρ Q => getDQ ρ Q k y (gt ρ i) n
theorem ve_getD {i : Nat} {ty : RE} (h : PE X e (tDGet2 (tVar i) (lE Γ tk) (lE Γ ty))) : PE X e (lE Γ (vGetD i tk ty)) :=
  PE.imp h fun σ H Q' ⟨ρ, n, F, Q, rel, h, k⟩ => by
    have h : getDQ ρ Q tk ty (gt ρ i) n := h
    cases eg : gt ρ i with
    | od xs =>
      rw [eg] at h
      obtain ⟨a, vs, ei, es, h2, h3, h4, h5⟩ := own_getD rel eg
      refine ⟨.ref a, es, a, rfl, .inl ⟨_, .inl h2⟩, ρ, n, F, _, rel, h, fun v2 t2 n2 F2 H2 f2 s2 r2 q2 => ⟨ρ, n2, F2, _, rel.go f2 s2, q2, fun v3 t3 n3 F3 H3 f3 s3 r3 q3 => ?_⟩⟩
      have k2 := f2.keep a _ h2 (by rw [h3]; intro z; cases z) (fun ps z => nomatch z)
      have k3 := f2.none h3 h2
      have k4 := f3.keep a _ k2 (by rw [k3]; intro z; cases z) (fun ps z => nomatch z)
      have k5 := h5.mono (f2.le.trans f3.le)
      have r2 := r2.mono f3.le
      cases r2 with
      | int j =>
        refine ⟨valV vs (.inl j), DGet.k (k := .inl j) k4, ?_⟩
        exact (((k.go f2).go f3)).here s3 (k5.valI r3) q3
      | _ => exact q3.elim
    | _ => rw [eg] at h; exact h.elim
end
end VL
/-! three names at once, the first one a list that will be changed -/
namespace VL
open PySem L2 DS PyProof.Rows
section
variable {X : Cx} {Γ : Cn} {st : Stmt} {te tf : RE}
/-- x, y, z = [..], e, f: x is a list that will be changed -/
def vPar3P (i j k : Nat) (l : RA) (e f : RE) : RS := fun D n ρ => l n ρ fun ts n1 => ts.length ≤ sizeLine ∧ e n1 ρ fun t n2 => f n2 ρ fun u n3 => D.nx n3 (((ρ.set i (.ol ts)).set j (.v t)).set k (.v u))
theorem vs_par3P {i j k : Nat} {tl : RA} (h : PS X st (tPar3 i j k (tCons (tLst (lA Γ tl)) (tCons (lE Γ te) (tCons (lE Γ tf) tNil))))) : PS X st (lS Γ (vPar3P i j k tl te tf)) :=
  PS.imp h fun D' σ H ⟨ρ, n, F, D, rel, h, ok⟩ => ⟨ρ, n, F, _, rel, h, fun vs ts n1 F1 H1 f1 s1 r1 q1 => by
    refine ⟨by rw [r1.length]; exact q1.1, fun p hp => ?_⟩
    have rel1 := rel.go f1 s1
    obtain ⟨f2, s2⟩ := alloc0 (o := .lst vs) s1 hp
    have fp := s1.free hp
    have h0 : nt Γ.H0 p = none := by
      cases q : nt Γ.H0 p with
      | none => rfl
      | some w => exact absurd (nt_none hp) (rel1.fr.there p (by rw [q]; intro z; cases z))
    have rel2 := rel1.go f2 s2
    refine ⟨ρ, n1, F1, _, rel2, q1.2, fun v t n3 F3 H3 f3 s3 r3 q3 => ?_⟩
    have rel3 := rel2.go f3 s3
    refine ⟨ρ, n3, F3, _, rel3, q3, fun v4 t4 n4 F4 H4 f4 s4 r4 q4 => ?_⟩
    have e3 := f3.keep p _ upd_same (by rw [fp]; intro z; cases z) (fun ps z => nomatch z)
    have n3' := f3.none fp (upd_same (o := HO.lst vs))
    have e4 := f4.keep p _ e3 (by rw [n3']; intro z; cases z) (fun ps z => nomatch z)
    have n4' := f4.none n3' e3
    refine ⟨_, _, _, rfl, ok.nx _ n4 F4 _ H4 (((f1.le.trans f2.le).trans f3.le).trans f4.le) ?_ q4⟩
    exact (((rel3.go f4 s4).setP (s1 := .ol ts) ⟨p, vs, rfl, e4, n4', h0, ((r1.mono f2.le).mono f3.le).mono f4.le⟩ (own_some rel1 hp)).set (r3.mono f4.le)).set r4⟩
end
end VL
/-! d[k] and [int(key) for key in d], d an owned dict with ints as keys -/
namespace VL
open PySem L2 DS PyProof.Rows
section
variable {X : Cx} {Γ : Cn} {te tk : RE} {e o i f : Expr} {x : Str} {pos : Pos}
/-- d[k], d owned, k an int that it has -/
def ixIQ (Q : VQ) (xs : List (Key × Tr)) : Tr → Nat → Prop
  | .int k, n => ∃ t, lkI k xs = some t ∧ Q t n
  | _, _ => False
def ixDQ (ρ : List Sl) (Q : VQ) (k : RE) : Sl → Nat → Prop
  | .od xs, n => k n ρ fun u n1 => ixIQ Q xs u n1
  | _, _ => False
def vIxD (i : Nat) (k : RE) : RE := fun n ρ Q => ixDQ ρ Q k (gt ρ i) n
theorem RepK.at {g : Gb} {F : FH} {k : Int} : ∀ {vs : List (Key × V)} {ts : List (Key × Tr)} {t : Tr}, RepK g F vs ts → lkI k ts = some t → ∃ v, valV vs (.inl k) = some v ∧ Rep g F v t
  | _, _, t, .nil, h => by cases h
  | _, _, t, .cons (x := .inr s) (ts := us) q qs, h => by
    obtain ⟨v, h1, h2⟩ := RepK.at qs h
    exact ⟨v, (valV_neg (fun z => by cases z)).trans h1, h2⟩
  | _, _, t, .cons (x := .inl j) (ts := us) (t := u) q qs, h => by
    unfold lkI at h
    by_cases c : k = j
    · subst c
      rw [if_pos rfl] at h
      cases h
      exact ⟨_, valV_pos rfl, q⟩
    · rw [if_neg c] at h
      obtain ⟨v, h1, h2⟩ := RepK.at qs h
      exact ⟨v, (valV_neg (fun z => c (Sum.inl.inj z).symm)).trans h1, h2⟩
theorem ve_ixOD {i : Nat} (h : PE X e (tDGet (tVar i) (lE Γ tk))) : PE X e (lE Γ (vIxD i tk)) :=
  PE.imp h fun σ H Q' ⟨ρ, n, F, Q, rel, h, k⟩ => by
    have h : ixDQ ρ Q tk (gt ρ i) n := h
    cases eg : gt ρ i with
    | od xs =>
      rw [eg] at h
      obtain ⟨a, vs, ei, es, h2, h3, h4, h5⟩ := own_getD rel eg
      refine ⟨.ref a, es, ρ, n, F, _, rel, h, fun v2 t2 n2 F2 H2 f2 s2 r2 q2 => ?_⟩
      have k2 := f2.keep a _ h2 (by rw [h3]; intro z; cases z) (fun ps z => nomatch z)
      cases r2 with
      | int j =>
        obtain ⟨t, e1, q2⟩ := q2
        obtain ⟨v, e2, rv⟩ := (h5.mono f2.le).at e1
        refine ⟨a, v, rfl, ?_, (k.go f2).here s2 rv q2⟩
        have := DGet.k (k := .inl j) k2
        rw [e2] at this
        exact this
      | _ => exact q2.elim
    | _ => rw [eg] at h; exact h.elim
/-- [int(key) for key in d], d owned -/
def keysQ (Q : VQ) : Sl → Nat → Prop
  | .od xs, n => ∃ ks : List Int, xs.map (·.1) = ks.map Sum.inl ∧ xs.length ≤ sizeLine ∧ Q (.lst (ks.map Tr.int)) n
  | _, _ => False
def vKeysI (i j : Nat) : RE := fun n ρ Q => j < ρ.length ∧ keysQ Q (gt ρ i) n
def rIntI : List V → Hp → VK → Prop := fun xs H Q => (∃ i, xs = [.int i] ∧ Q (.int i) H) ∨ ∃ k, xs = [.bl k] ∧ Q (.int (if k then 1 else 0)) H
theorem ve_keysI {i j : Nat} {elt tg iter : Expr} {scope : Scope} {own : List (Str × Nat)} (hc : X.calm = true) (hN : X.N.Nodup) (hi : PE X iter (tVar i)) (ok : BlkOk X.N X.env.scope scope own) (hj : j ∈ own.map (·.2))
    (hg : ∀ (s : Shared) (H : Hp) (C : Addr) (cl : List (Str × Addr)) (fp : List Addr), PG (X.blk s H scope (compEnvC scope cl C X.env) fp) tg (gName j))
    (he : ∀ (s : Shared) (H : Hp) (C : Addr) (cl : List (Str × Addr)) (fp : List Addr), PE (X.blk s H scope (compEnvC scope cl C X.env) fp) elt (tCB rIntI (tCons (tVar j) tNil))) (hs : ∀ x, foldedSetIterable iter X.env x = pure x := by intro _; rfl) :
    PE X (.ListComp elt [⟨tg, iter, [], 0⟩] scope pos) (lE Γ (vKeysI i j)) :=
  PE.imp (pe_lock (pe_lc hc hN (pi_keys hi) ok hg (fun _ _ _ _ _ => pts_nil) he hs)) fun σ H Q' ⟨ρ, n, F, Q, rel, h, k⟩ => by
    have h : j < ρ.length ∧ keysQ Q (gt ρ i) n := h
    obtain ⟨jr, h⟩ := h
    have jl : j < σ.length := by
      obtain ⟨o, h1, _⟩ := rel.sl j _ (List.getElem?_eq_getElem jr)
      exact (List.getElem?_eq_some_iff.mp h1).1
    cases eg : gt ρ i with
    | od xs =>
      rw [eg] at h
      obtain ⟨ks, ek, lx, q⟩ := h
      obtain ⟨a, vs, ei, es, h2, h3, h4, h5⟩ := own_getD rel eg
      have kv : vs.map (·.1) = ks.map Sum.inl := h5.keys.trans ek
      have kl : vs.length = ks.length := by
        have := congrArg List.length kv
        rwa [List.length_map, List.length_map] at this
      have xl := h5.len
      refine ⟨a, .dK vs, h2, trivial, fun od => ⟨.ref a, es, a, od, rfl, .inl ⟨vs, upd_same, fun D hD => ?_⟩⟩⟩
      have Da : D ≠ a := fun z => by subst z; rw [upd_same] at hD; cases hD
      have hD0 : H D = none := by rwa [upd_ne Da] at hD
      refine ⟨fun i m G => i + m = ks.length ∧ G = upd (upd H a (.frz od (.dK vs))) D (.lst ((ks.take i).map V.int)), ⟨ks.length, by omega, rfl⟩, ?_⟩
      rintro i m G ⟨hm, rfl⟩
      have Ga : upd (upd H a (.frz od (.dK vs))) D (.lst ((ks.take i).map V.int)) a = some (.frz od (.dK vs)) := by rw [upd_ne Da.symm]; exact upd_same
      by_cases c : i < ks.length
      · refine .inr ⟨⟨Ga, by omega⟩, fun G' => G' = upd (upd H a (.frz od (.dK vs))) D (.lst ((ks.take (i + 1)).map V.int)), fun G' e => ⟨m - 1, by omega, by omega, e⟩, ?_⟩
        rintro x G' ⟨rfl, kk, v, ekk, rfl⟩
        have e1 : kk = Sum.inl ks[i] := by
          have z := congrArg (fun l : List Key => l[i]?) kv
          rw [List.getElem?_map, ekk, List.getElem?_map, List.getElem?_eq_getElem c] at z
          exact Option.some.inj z
        subst e1
        refine ⟨by rw [wipe_set, if_pos hj, wipe_again], ?_⟩
        dsimp only [tYes]
        rw [if_pos rfl]
        refine ⟨_, List.getElem?_set_self (by rw [L2.wipe_length]; exact jl), .inl ⟨ks[i], rfl, (ks.take i).map V.int, upd_same, ?_, ?_⟩⟩
        · rw [List.length_map, List.length_take]; omega
        · show upd _ D _ = upd _ D _
          rw [List.take_succ_eq_append_getElem c, List.map_append]
          funext b
          by_cases z : b = D
          · subst z; rw [upd_same, upd_same]; rfl
          · rw [upd_ne z, upd_ne z, upd_ne z]
      · have ei : i = ks.length := by omega
        subst ei
        refine .inl ⟨⟨Ga, by omega⟩, Ga, ?_⟩
        rw [List.take_length]
        have eH : upd (upd (upd H a (.frz od (.dK vs))) D (.lst (ks.map V.int))) a (.dK vs) = upd H D (.lst (ks.map V.int)) := by
          funext b
          by_cases z : b = a
          · subst z; rw [upd_same, upd_ne Da.symm, h2]
          · rw [upd_ne z]
            by_cases y : b = D
            · subst y; rw [upd_same, upd_same]
            · rw [upd_ne y, upd_ne y, upd_ne z]
        rw [eH]
        obtain ⟨f2, s2⟩ := alloc (o := .lst (ks.map V.int)) rel.sub hD0
        exact k _ _ n _ _ f2 s2 (.lst updF_same (Reps.of_ints ks)) q
    | _ => rw [eg] at h; exact h.elim
end
end VL
/-! sorted(xs), xs a list of pairs of any ints, any number of them -/
namespace VL
open PySem L2 DS PyProof.Rows
/-- a pair of ints -/
def pr2 (p : Int × Int) : Tr := .tup [.int p.1, .int p.2]
/-- the pair that a value is in a heap, if it is one -/
noncomputable def valPr (h : Heap) (v : Value) : Int × Int := open Classical in if e : ∃ p : Int × Int, Srt.IsPair h v p.1 p.2 then e.choose else (0, 0)
theorem pr_one {h : Heap} {v : Value} {p q : Int × Int} (a : Srt.IsPair h v p.1 p.2) (b : Srt.IsPair h v q.1 q.2) : p = q := by
  obtain ⟨a1, o1, t1, u1, n1, e1, g1, c1, d1⟩ := a
  obtain ⟨a2, o2, t2, u2, n2, e2, g2, c2, d2⟩ := b
  rw [e1] at e2
  cases e2
  rw [g1] at g2
  cases g2
  rw [d1] at d2
  injection d2 with d2
  have d2 := congrArg Array.toList d2
  injection d2 with x1 d2
  injection d2 with x2 _
  injection x1 with x1
  injection x2 with x2
  exact Prod.ext x1 x2
theorem valPr_at {h : Heap} {v : Value} {p : Int × Int} (a : Srt.IsPair h v p.1 p.2) : valPr h v = p := by
  have e : ∃ p : Int × Int, Srt.IsPair h v p.1 p.2 := ⟨p, a⟩
  unfold valPr
  rw [dif_pos e]
  exact pr_one e.choose_spec a
/-- a reference, as a value of the layer -/
def refV : Value → V
  | .ref a => .ref a
  | _ => .non
theorem refs_vals : ∀ {vs : List Value}, (∀ v ∈ vs, ∃ a, v = .ref a) → Vals (vs.map refV) vs
  | [], _ => .nil
  | v :: vs, h => by
    obtain ⟨a, rfl⟩ := h v (List.mem_cons_self ..)
    exact .cons rfl (refs_vals fun u m => h u (List.mem_cons_of_mem _ m))
theorem refs_reps {g : Gb} {F : FH} {k : Value → Int × Int} : ∀ {vs : List Value}, (∀ v ∈ vs, Rep g F (refV v) (pr2 (k v))) → Reps g F (vs.map refV) ((vs.map k).map pr2)
  | [], _ => .nil
  | v :: vs, h => .cons (h v (List.mem_cons_self ..)) (refs_reps fun u m => h u (List.mem_cons_of_mem _ m))
/-- what is known of the items -/
theorem prs_all {g : Gb} {F : FH} {h : Heap} (hp : ∀ a p, Rep g F (.ref a) (pr2 p) → Srt.IsPair h (.ref a) p.1 p.2) : ∀ {xs : List V} {l : List (Int × Int)} {vs : List Value}, Reps g F xs (l.map pr2) → Vals xs vs →
    vs.map (valPr h) = l ∧ ∀ v ∈ vs, (∃ a, v = .ref a) ∧ Rep g F (refV v) (pr2 (valPr h v)) ∧ Srt.IsPair h v (valPr h v).1 (valPr h v).2
  | _, [], _, .nil, .nil => ⟨rfl, fun _ m => nomatch m⟩
  | _, p :: l, _, .cons r rs, .cons q qs => by
    obtain ⟨a, rfl⟩ := rep_ref r (.inl ⟨_, rfl⟩)
    cases q
    have i := hp a p r
    have e := valPr_at i
    obtain ⟨h1, h2⟩ := prs_all hp rs qs
    refine ⟨by rw [List.map_cons, e, h1], fun v m => ?_⟩
    rcases List.mem_cons.mp m with rfl | m
    · rw [e]; exact ⟨⟨a, rfl⟩, r, i⟩
    · exact h2 v m
def cSortPr : VRL
  | [.lst ts], n, Q => ∃ l : List (Int × Int), ts = l.map pr2 ∧ ∀ l' : List (Int × Int), l'.Perm l → l'.Pairwise (fun p q => p.1 < q.1 ∨ (p.1 = q.1 ∧ p.2 ≤ q.2)) → Q (.lst (l'.map pr2)) n
  | _, _, _ => False
theorem cv_sortPr {X : Cx} {Γ : Cn} (hK : X.K = Γ.g.K) : CallR X (.builtin "sorted") (lC Γ cSortPr) := fun pins s σ H xs us Q' I r ⟨n, F, ts, Q, ok, fr, sb, rp, q, kk⟩ => by
  match ts, q, rp with
  | [.lst ts], ⟨l, e, q⟩, rp =>
    subst e
    obtain ⟨v, rfl, rv⟩ := rp.one
    cases rv with
    | lst e rs =>
      obtain ⟨vs, rvs, hl, hz⟩ := I.list (.inl (.inl (sb.at_ e)))
      have hp : ∀ a p, Rep Γ.g F (.ref a) (pr2 p) → Srt.IsPair s.heap (.ref a) p.1 p.2 := fun a p rep => by
        cases rep with
        | tup q1 q2 =>
          have er : _ = [V.int p.1, V.int p.2] := Reps.ints (ns := [p.1, p.2]) q2
          subst er
          obtain ⟨its, ri, ⟨o, ho, hc, m, hd⟩, _⟩ := I.tuple (by rw [hK]; exact sqT_sub sb q1)
          cases ri with
          | cons x1 ri => cases ri with
            | cons x2 ri => cases ri with
              | nil =>
                obtain ⟨t1, x1⟩ := x1
                obtain ⟨t2, x2⟩ := x2
                subst x1; subst x2
                exact ⟨a, o, t1, t2, m, rfl, ho, hc, hd⟩
      obtain ⟨ml, all⟩ := prs_all hp rs rvs
      cases r with
      | cons r0 r1 =>
        cases r1
        cases r0
        refine SrtO.sorted_pairsO (k := valPr s.heap) hl.isList (by rw [← rvs.length]; exact hz) (fun v m => (all v m).2.2) fun h' d out h1 h2 keep hd hn => ?_
        obtain ⟨m, hn⟩ := hn
        have mem : ∀ v ∈ out, v ∈ vs := fun v mv => h2.perm.mem_iff.mp mv
        have refs := refs_vals fun v mv => (all v (mem v mv)).1
        have len : (out.map refV).length ≤ sizeLine := by
          rw [List.length_map, h2.perm.length_eq, ← rvs.length]
          exact hz
        have np := I.hok.fresh hd
        obtain ⟨f2, s2⟩ := alloc (o := .lst (out.map refV)) sb np
        refine ⟨.ref d, upd H d (.lst (out.map refV)), I.laid (t' := s.toks) keep hd ⟨len, out, m, refs, hn⟩, rfl, kk _ _ n _ _ f2 s2 (.lst updF_same ((refs_reps fun v mv => (all v (mem v mv)).2.1).mono f2.le)) (q _ (by rw [← ml]; exact h2.perm.map _) ?_)⟩
        refine List.pairwise_map.mpr (List.Pairwise.imp (fun {u v} z => ?_) h1)
        have z := SrtO.lexB_no.mp z
        omega
end VL
/-! xs == ys, lists of pairs (an instance with an own ==, an int): the answer, whatever it is -/
namespace VL
section
open PySem PySem.SeqAt PySem.MeetsSeq3
variable {prog : Program} {w : World} {A : Around} {R : Result → Shared → Prop} {J : Shared → Prop} {e : Nat → Bool}
/-- all of so many answers from i on -/
def allE (e : Nat → Bool) : Nat → Nat → Bool
  | _, 0 => true
  | i, k + 1 => e i && allE e (i + 1) k
theorem allE_succ (i k : Nat) : allE e i (k + 1) = (e i && allE e (i + 1) k) := rfl
/-- as long as J holds two lists of N items stand at l and b, the i-th items compare as e i -/
def Couple (prog : Program) (w : World) (A : Around) (R : Result → Shared → Prop) (J : Shared → Prop) (l b : Addr) (N : Nat) (e : Nat → Bool) : Prop := ∀ s, J s → ∃ (xs ys : Array Value) (n m : Nat) (dx dy : Option Addr) (sx sy : Array (Option Value)),
  s.heap.get? l = some ⟨.type "list", dx, .seq xs n, sx⟩ ∧ s.heap.get? b = some ⟨.type "list", dy, .seq ys m, sy⟩ ∧ xs.size = N ∧ ys.size = N ∧
  ∀ i (h1 : i < xs.size) (h2 : i < ys.size), wpAny (model prog w) A.in1 (eqBool xs[i] ys[i]) (fun r s' => r = e i ∧ J s') (fun x s' => R (.error x) s') s
theorem lstEqFrom {l b : Addr} {N : Nat} (T : Couple prog w A R J l b N e) : ∀ (left i : Nat), i + left = N → (∀ s, J s → R (.ok (.ret (.bool (allE e i left)))) s) → ∀ s, J s →
    wpAny (model prog w) A.in1 (Builtin.«list.__eq__.loop» ⟨[.ref l, .ref b, rawInt i, rawInt 2], []⟩) (GQ.FinOf prog w A R) (fun x s' => R (.error x) s') s := by
  intro left
  induction left with
  | zero =>
    intro i hi done s j
    obtain ⟨xs, ys, n, m, dx, dy, sx, sy, gx, gy, zx, zy, _⟩ := T s j
    have z := done s j
    obtain ⟨hp, g, d, tk, os⟩ := s
    have a1 : xs[((i : Nat) : Int).toNat]? = none := Array.getElem?_eq_none (by rw [Int.toNat_natCast]; omega)
    have a2 : ys[((i : Nat) : Int).toNat]? = none := Array.getElem?_eq_none (by rw [Int.toNat_natCast]; omega)
    wp_walk using AutoSeq1.wpAny_loadPart' gx, AutoSeq1.wpAny_loadPart' gy
    rw [a1, a2]
    wp_walk using AutoSeq1.wpAny_loadPart' gx, AutoSeq1.wpAny_loadPart' gy
    show R (.ok (.ret (.bool (xs.size == ys.size)))) _
    rw [zx, zy, beq_self_eq_true]
    exact z
  | succ left ih =>
    intro i hi done s j
    obtain ⟨xs, ys, n, m, dx, dy, sx, sy, gx, gy, zx, zy, step⟩ := T s j
    have st := step i (by omega) (by omega)
    obtain ⟨hp, g, d, tk, os⟩ := s
    have a1 : xs[((i : Nat) : Int).toNat]? = some xs[i] := by rw [Int.toNat_natCast]; exact Array.getElem?_eq_getElem (by omega)
    have a2 : ys[((i : Nat) : Int).toNat]? = some ys[i] := by rw [Int.toNat_natCast]; exact Array.getElem?_eq_getElem (by omega)
    wp_walk using AutoSeq1.wpAny_loadPart' gx, AutoSeq1.wpAny_loadPart' gy
    rw [a1, a2]
    refine wpAny_bind (wpAny_mono st (fun r s2 ⟨hr, j2⟩ => ?_) fun _ _ x => x)
    cases c : e i with
    | true =>
      rw [c] at hr
      subst hr
      wp_walk
      have go := ih (i + 1) (by omega) (fun s3 j3 => by have z := done s3 j3; unfold allE at z; rw [c, Bool.true_and] at z; exact z) s2 j2
      rw [Int.natCast_add, show (((1 : Nat) : Int)) = 1 from rfl] at go
      exact ⟨plainId_quiet plain_eq_loop _, codeAny_builtin entry_eq_loop ((Around.under_plainId (A := A) plain_eq_loop _).symm ▸ go)⟩
    | false =>
      rw [c] at hr
      subst hr
      have z := done s2 j2
      unfold allE at z
      rw [c, Bool.false_and] at z
      obtain ⟨us, vs, _, _, _, _, _, _, gu, gv, zu, zv, _⟩ := T s2 j2
      obtain ⟨hp2, g2, d2, tk2, os2⟩ := s2
      have b1 : us[((i : Nat) : Int).toNat]? = some us[i] := by rw [Int.toNat_natCast]; exact Array.getElem?_eq_getElem (by omega)
      have b2 : vs[((i : Nat) : Int).toNat]? = some vs[i] := by rw [Int.toNat_natCast]; exact Array.getElem?_eq_getElem (by omega)
      wp_walk using AutoSeq1.wpAny_loadPart' gu, AutoSeq1.wpAny_loadPart' gv
      rw [b1, b2]
      wp_walk
      exact z
/-- list.__eq__ of two lists of one length -/
theorem lstEq {l b : Addr} {N : Nat} (T : Couple prog w A R J l b N e) (done : ∀ s, J s → R (.ok (.ret (.bool (allE e 0 N)))) s) (s : Shared) (j : J s) :
    wpAny (model prog w) A.in1 (Builtin.«list.__eq__» ⟨[.ref l, .ref b], []⟩) (GQ.FinOf prog w A R) (fun x s' => R (.error x) s') s := by
  have go := lstEqFrom T N 0 (Nat.zero_add N) done s j
  obtain ⟨xs, ys, n, m, dx, dy, sx, sy, gx, gy, zx, zy, _⟩ := T s j
  have sub := AutoSeq1.sub_list_list
  have same : ¬ (xs.size != ys.size) = true := by rw [zx, zy, bne_self_eq_false]; decide
  obtain ⟨hp, g, d, tk, os⟩ := s
  wp_walk using AutoSeq1.wpAny_loadPart' gx, AutoSeq1.wpAny_loadPart' gy
  exact ⟨plainId_quiet plain_eq_loop _, codeAny_builtin entry_eq_loop ((Around.under_plainId (A := A) plain_eq_loop _).symm ▸ go)⟩
/-- of two lists of unlike lengths -/
theorem lstEqL {l b : Addr} {xs ys : Array Value} {n m : Nat} {dx dy : Option Addr} {sx sy : Array (Option Value)} (s : Shared) (gx : s.heap.get? l = some ⟨.type "list", dx, .seq xs n, sx⟩) (gy : s.heap.get? b = some ⟨.type "list", dy, .seq ys m, sy⟩) (ne : xs.size ≠ ys.size) (done : R (.ok (.ret (.bool false))) s) :
    wpAny (model prog w) A.in1 (Builtin.«list.__eq__» ⟨[.ref l, .ref b], []⟩) (GQ.FinOf prog w A R) (fun x s' => R (.error x) s') s := by
  have sub := AutoSeq1.sub_list_list
  have unlike : (xs.size != ys.size) = true := bne_iff_ne.mpr ne
  obtain ⟨hp, g, d, tk, os⟩ := s
  wp_walk using AutoSeq1.wpAny_loadPart' gx, AutoSeq1.wpAny_loadPart' gy
  exact done
/-- tuple.__eq__ of two tuples of one length -/
theorem tupEq {l b : Addr} {xs ys : Array Value} {n m : Nat} {dx dy : Option Addr} {sx sy : Array (Option Value)} {s : Shared} (sz : xs.size = ys.size)
    (step : ∀ i (h1 : i < xs.size) (h2 : i < ys.size) s, J s → wpAny (model prog w) A.in1 (eqBool xs[i] ys[i]) (fun r s' => r = e i ∧ J s') (fun x s' => R (.error x) s') s)
    (done : ∀ s, J s → R (.ok (.ret (.bool (allE e 0 xs.size)))) s)
    (gx : s.heap.get? l = some ⟨.type "tuple", dx, .seq xs n, sx⟩) (gy : s.heap.get? b = some ⟨.type "tuple", dy, .seq ys m, sy⟩) (j0 : J s) :
    wpAny (model prog w) A.in1 (Builtin.«tuple.__eq__» ⟨[.ref l, .ref b], []⟩) (GQ.FinOf prog w A R) (fun x s' => R (.error x) s') s := by
  have sub := AutoSeq1.sub_tuple_tuple
  have j1 := j0
  have zl : (xs.toList.zip ys.toList).length = xs.size := by rw [List.length_zip, Array.length_toList, Array.length_toList]; omega
  obtain ⟨hp, g, d, tk, os⟩ := s
  wp_walk using AutoSeq1.wpAny_loadPart' gx, AutoSeq1.wpAny_loadPart' gy, wpAny_forIn_list _ (fun rest acc s' => acc.1 = none ∧ (∃ i, rest = (xs.toList.zip ys.toList).drop i ∧ i ≤ xs.size ∧ allE e 0 xs.size = allE e i (xs.size - i)) ∧ J s') _
  case turn =>
    rintro p rest acc s' ⟨ea, ⟨i, er, il, ae⟩, hj⟩
    have hi : i < xs.size := by
      rcases Nat.lt_or_ge i xs.size with q | q
      · exact q
      · rw [List.drop_of_length_le (by omega)] at er; cases er
    rw [List.drop_eq_getElem_cons (by omega)] at er
    injection er with e1 e2
    have ep : p = (xs[i], ys[i]'(by omega)) := by rw [e1, List.getElem_zip, Array.getElem_toList, Array.getElem_toList]
    subst ep
    refine wpAny_bind (wpAny_mono (step i hi (by omega) s' hj) (fun r s2 ⟨hr, j2⟩ => ?_) fun _ _ x => x)
    rw [show xs.size - i = (xs.size - (i + 1)) + 1 by omega, allE_succ] at ae
    cases c : e i with
    | true =>
      rw [c] at hr ae
      subst hr
      rw [Bool.true_and] at ae
      wp_walk
      exact ⟨rfl, ⟨i + 1, e2, hi, ae⟩, j2⟩
    | false =>
      rw [c] at hr ae
      subst hr
      rw [Bool.false_and] at ae
      have z := done s2 j2
      rw [ae] at z
      wp_walk
      exact z
  case fin =>
    rintro ⟨a1, a2⟩ s' ⟨ea, ⟨i, er, il, ae⟩, hj⟩
    cases (show a1 = none from ea)
    have hi : xs.size ≤ i := by
      rcases Nat.lt_or_ge i xs.size with q | q
      · rw [List.drop_eq_getElem_cons (by omega)] at er; cases er
      · exact q
    have z := done s' hj
    rw [ae, show xs.size - i = 0 by omega] at z
    wp_walk
    simpa [Builtin.Tuple.tupleCompareSizes, sz, allE] using z
  case h => exact ⟨rfl, ⟨0, rfl, Nat.zero_le _, rfl⟩, j1⟩
end
section
open PySem L2 DS PyProof.Rows
variable {X : Cx} {g : Gb} {m : Nat} {C : Addr} {ok : List (Str × Tr) → Prop} {eqf : List (Str × Tr) → List (Str × Tr) → Bool}
/-- what stays while == runs -/
def Stay (X : Cx) (g : Gb) (pins : List (Addr × Obj)) (σ : L2.St) (F : FH) (H : Hp) (n : Nat) (s' : Shared) : Prop := ∃ F' H', Inv X pins σ H' s' ∧ Fr F H F' H' ∧ VL.Sub g n F' H'
/-- two values of these trees, somewhere below the body -/
structure Two (X : Cx) (g : Gb) (m : Nat) (t u : Tr) (A : Around) (pins : List (Addr × Obj)) (s : Shared) (σ : L2.St) (F : FH) (H : Hp) (n : Nat) (v z : Value) : Prop where
  sub : L2.Sub X m A
  inv : Inv X pins σ H s
  sb : VL.Sub g n F H
  l : ∃ x, RelV x v ∧ Rep g F x t
  r : ∃ x, RelV x z ∧ Rep g F x u
/-- inside a list or tuple: the answer is b -/
def AsT (X : Cx) (g : Gb) (m : Nat) (t u : Tr) (b : Bool) : Prop := ∀ ⦃A pins s σ F H n v z⦄, Two X g m t u A pins s σ F H n v z → wpAny (model X.prog X.w) A (eqBool v z) (fun r s' => r = b ∧ Stay X g pins σ F H n s') X.xe s
/-- as a comparison -/
def RcT (X : Cx) (g : Gb) (m : Nat) (t u : Tr) (b : Bool) : Prop := ∀ ⦃A pins s σ F H n v z⦄, Two X g m t u A pins s σ F H n v z → wpAny (model X.prog X.w) A (richCompare .Eq v z) (fun r s' => r = .bool b ∧ Stay X g pins σ F H n s') X.xe s
theorem Two.stay {t u : Tr} {A : Around} {pins : List (Addr × Obj)} {s : Shared} {σ : L2.St} {F : FH} {H : Hp} {n : Nat} {v z : Value} (w : Two X g m t u A pins s σ F H n v z) : Stay X g pins σ F H n s := ⟨F, H, w.inv, Fr.refl _ _, w.sb⟩
theorem asInt (a c : Int) : AsT X g 0 (.int a) (.int c) (decide (a = c)) := fun A pins s σ F H n v z w => by
  obtain ⟨x, r1, q1⟩ := w.l
  obtain ⟨y, r2, q2⟩ := w.r
  cases q1; cases q2
  have q := eqAt_V (A := A) (s := s) r1 r2 rfl rfl
  rw [show eqV (.int a) (.int c) = decide (a = c) by by_cases h : a = c <;> simp [eqV, h]] at q
  exact q X.prog X.w X.xe _ ⟨rfl, w.stay⟩
theorem AsT.mono {t u : Tr} {b : Bool} {k : Nat} (h : AsT X g m t u b) (l : m ≤ k) : AsT X g k t u b := fun _ _ _ _ _ _ _ _ _ w => h ⟨w.sub.mono l, w.inv, w.sb, w.l, w.r⟩
/-- the same object on both sides -/
theorem RcT.as {t u : Tr} {b : Bool} (h : RcT X g m t u b) (hr : ∀ F x, (Rep g F x t ∨ Rep g F x u) → ∃ a, x = .ref a) (one : ∀ ⦃A pins s σ F H n a⦄, Two X g m t u A pins s σ F H n (.ref a) (.ref a) → b = true) : AsT X g m t u b := fun A pins s σ F H n v z w => by
  obtain ⟨x, r1, q1⟩ := id w.l
  obtain ⟨y, r2, q2⟩ := id w.r
  obtain ⟨a, rfl⟩ := hr _ _ (.inl q1)
  obtain ⟨c, rfl⟩ := hr _ _ (.inr q2)
  obtain rfl : v = Value.ref a := r1
  obtain rfl : z = Value.ref c := r2
  by_cases e : a = c
  · subst e
    exact SeqAt.EqAt.same (A := A) (s := s) (.ref a) X.prog X.w X.xe _ ⟨(one w).symm, w.stay⟩
  · exact GQ.eqBool_refG e (wpAny_mono (h w) (fun r s' ⟨hr', q⟩ => ⟨b, hr', rfl, q⟩) fun _ _ x => x)
theorem Stay.two {t u : Tr} {A : Around} {pins : List (Addr × Obj)} {s' : Shared} {σ : L2.St} {F : FH} {H : Hp} {n : Nat} {v z : Value} {k : Nat} (st : Stay X g pins σ F H n s') (sub : L2.Sub X k A) (l : ∃ x, RelV x v ∧ Rep g F x t) (r : ∃ x, RelV x z ∧ Rep g F x u) : ∃ F' H', Fr F H F' H' ∧ Two X g k t u A pins s' σ F' H' n v z := by
  obtain ⟨F', H', I, f, sb⟩ := st
  obtain ⟨x, r1, q1⟩ := l
  obtain ⟨y, r2, q2⟩ := r
  exact ⟨F', H', f, sub, I, sb, ⟨x, r1, q1.mono f.le⟩, ⟨y, r2, q2.mono f.le⟩⟩
/-- the i-th items of two rows of values -/
theorem items_as {ts us : List Tr} {e : Nat → Bool} (h : ∀ i t u, ts[i]? = some t → us[i]? = some u → AsT X g m t u (e i)) {A : Around} {pins : List (Addr × Obj)} {s' : Shared} {σ : L2.St} {F : FH} {H : Hp} {n : Nat} (sub : L2.Sub X (m + 1) A) {vs ws : List V} {xs ys : List Value} (rv : Reps g F vs ts) (rw' : Reps g F ws us) (r : Vals vs xs) (r2 : Vals ws ys) (st : Stay X g pins σ F H n s')
    (i : Nat) (h1 : i < xs.toArray.size) (h2 : i < ys.toArray.size) : wpAny (model X.prog X.w) A.in1 (eqBool xs.toArray[i] ys.toArray[i]) (fun q s2 => q = e i ∧ Stay X g pins σ F H n s2) X.xe s' := by
  rw [List.size_toArray] at h1 h2
  have k1 : i < vs.length := by rw [r.length]; exact h1
  have k2 : i < ws.length := by rw [r2.length]; exact h2
  obtain ⟨u1, hu, ru⟩ := r.get (List.getElem?_eq_getElem k1)
  obtain ⟨v1, hv, rv1⟩ := r2.get (List.getElem?_eq_getElem k2)
  obtain ⟨t1, ht, rt⟩ := rv.get' _ (List.getElem?_eq_getElem k1)
  obtain ⟨t2, ht2, rt2⟩ := rw'.get' _ (List.getElem?_eq_getElem k2)
  rw [List.getElem?_eq_getElem h1] at hu
  rw [List.getElem?_eq_getElem h2] at hv
  obtain ⟨F', H', f, tw⟩ := st.two sub.in1 ⟨_, ru, rt⟩ ⟨_, rv1, rt2⟩
  rw [← Option.some.inj hu, ← Option.some.inj hv] at tw
  rw [List.getElem_toArray, List.getElem_toArray]
  refine wpAny_mono (h i _ _ ht ht2 tw) (fun q s2 ⟨e1, F2, H2, I2, f2, sb2⟩ => ⟨e1, F2, H2, I2, f.trans f2, sb2⟩) fun _ _ x => x
theorem rcTup (hK : X.K = g.K) {ts us : List Tr} {e : Nat → Bool} (len : ts.length = us.length) (h : ∀ i t u, ts[i]? = some t → us[i]? = some u → AsT X g m t u (e i)) : RcT X g (m + 1) (.tup ts) (.tup us) (allE e 0 ts.length) := fun A pins s σ F H n v z w => by
  obtain ⟨x, r1, q1⟩ := id w.l
  obtain ⟨y, r2, q2⟩ := id w.r
  cases q1 with
  | tup a1 b1 => cases q2 with
    | tup a2 b2 =>
      cases r1; cases r2
      obtain ⟨xs, rx, ⟨⟨c1, d1, o1, l1⟩, g1, hc1, k1, hd1⟩, _⟩ := w.inv.tuple (by rw [hK]; exact sqT_sub w.sb a1)
      obtain ⟨ys, ry, ⟨⟨c2, d2, o2, l2⟩, g2, hc2, k2, hd2⟩, _⟩ := w.inv.tuple (by rw [hK]; exact sqT_sub w.sb a2)
      dsimp only at hc1 hd1 hc2 hd2
      subst hc1; subst hd1; subst hc2; subst hd2
      have e1 := rx.length
      have e2 := ry.length
      have e3 := b1.length
      have e4 := b2.length
      have sz : xs.toArray.size = ys.toArray.size := by rw [List.size_toArray, List.size_toArray]; omega
      refine wpAny_richCompare_same_room (op := .Eq) ⟨_, g1, rfl⟩ ⟨_, g2, rfl⟩ PySem.F.slot_tuple_eq (GQ.call_here PySem.F.slot_tuple_eq ⟨_, g1, rfl⟩ PySem.F.entry_tuple_eq (PySem.F.args_tuple_eq_2 _ _) ?_) w.sub.room.units0
      refine tupEq (R := wants (fun q s' => q ≠ .notImplemented ∧ q = .bool (allE e 0 ts.length) ∧ Stay X g pins σ F H n s') X.xe) (J := Stay X g pins σ F H n) (e := e) sz (fun i h1 h2 s' st => items_as h w.sub b1 b2 rx ry st i h1 h2) (fun s' st => ?_) g1 g2 w.stay
      rw [show xs.toArray.size = ts.length by rw [List.size_toArray]; omega]
      exact ⟨(fun q => nomatch q), rfl, st⟩
theorem lstAt {ts : List Tr} {pins : List (Addr × Obj)} {s : Shared} {σ : L2.St} {F : FH} {H : Hp} {n : Nat} {a : Addr} {vs : List V} (I : Inv X pins σ H s) (sb : VL.Sub g n F H) (q : F a = some (.ob (.lst vs))) (b : Reps g F vs ts) : ∃ (xs : List Value) (k : Nat), Vals vs xs ∧ xs.length = ts.length ∧ s.heap.get? a = some { cls := .type "list", data := .seq xs.toArray k } := by
  obtain ⟨_, xs, k, r, e⟩ := I.hok a _ (sb.at_ q)
  exact ⟨xs, k, r, by rw [← r.length, b.length], e⟩
theorem rcLst {ts us : List Tr} {e : Nat → Bool} (h : ∀ i t u, ts[i]? = some t → us[i]? = some u → AsT X g m t u (e i)) : RcT X g (m + 1) (.lst ts) (.lst us) (decide (ts.length = us.length) && allE e 0 ts.length) := fun A pins s σ F H n v z w => by
  obtain ⟨x, r1, q1⟩ := id w.l
  obtain ⟨y, r2, q2⟩ := id w.r
  cases q1 with
  | lst a1 b1 => cases q2 with
    | lst a2 b2 =>
      cases r1; cases r2
      obtain ⟨xs, k1, rx, lx, g1⟩ := lstAt w.inv w.sb a1 b1
      obtain ⟨ys, k2, ry, ly, g2⟩ := lstAt w.inv w.sb a2 b2
      refine wpAny_richCompare_same_room (op := .Eq) ⟨_, g1, rfl⟩ ⟨_, g2, rfl⟩ PySem.F.slot_list_eq (GQ.call_here PySem.F.slot_list_eq ⟨_, g1, rfl⟩ PySem.F.entry_list_eq (PySem.F.args_list_eq_2 _ _) ?_) w.sub.room.units0
      by_cases len : ts.length = us.length
      · rw [decide_eq_true len, Bool.true_and]
        refine lstEq (N := ts.length) (e := e) (R := wants (fun q s' => q ≠ .notImplemented ∧ q = .bool (allE e 0 ts.length) ∧ Stay X g pins σ F H n s') X.xe) (J := Stay X g pins σ F H n) (fun s' st => ?_) (fun s' st => ⟨(fun q => nomatch q), rfl, st⟩) s w.stay
        obtain ⟨F', H', I', f, sb'⟩ := id st
        obtain ⟨xs, k1, rx, lx, g1⟩ := lstAt I' sb' (f.le _ _ a1) (b1.mono f.le)
        obtain ⟨ys, k2, ry, ly, g2⟩ := lstAt I' sb' (f.le _ _ a2) (b2.mono f.le)
        exact ⟨xs.toArray, ys.toArray, k1, k2, _, _, _, _, g1, g2, by rw [List.size_toArray, lx], by rw [List.size_toArray, ly, len], fun i h1 h2 => items_as h w.sub b1 b2 rx ry st i h1 h2⟩
      · rw [decide_eq_false len, Bool.false_and]
        exact lstEqL (R := wants (fun q s' => q ≠ .notImplemented ∧ q = .bool false ∧ Stay X g pins σ F H n s') X.xe) s g1 g2 (by rw [List.size_toArray, List.size_toArray, lx, ly]; exact len) ⟨(fun q => nomatch q), rfl, w.stay⟩
/-- the body's place, with other things around -/
def cxAt (X : Cx) (A : Around) : Cx := { X with A := A }
theorem inv_at {A : Around} {pins : List (Addr × Obj)} {s : Shared} {σ : L2.St} {H : Hp} (I : Inv X pins σ H s) (sub : L2.Sub X m A) : Inv (cxAt X A) pins σ H s :=
  ⟨⟨I.ok.mod, I.ok.kind, I.ok.glob, I.ok.blt, I.ok.above, I.ok.inj, I.ok.has, I.ok.cab, fun _ => sub.room.hd, sub.fr.trans I.ok.frames, I.ok.stk, I.ok.exf, I.ok.bs, I.ok.bsz, I.ok.noex, I.ok.exfs, I.ok.funs, I.ok.frf⟩, I.os, I.bare, I.base, I.loc, I.cell, I.free, I.freeC, I.pin, I.hok, I.len⟩
theorem inv_un {A : Around} {pins : List (Addr × Obj)} {s : Shared} {σ : L2.St} {H H0 : Hp} {s0 : Shared} (ok : Inv X pins σ H0 s0) (I : Inv (cxAt X A) pins σ H s) : Inv X pins σ H s := ⟨ok.ok, I.os, I.bare, I.base, I.loc, I.cell, I.free, I.freeC, I.pin, I.hok, I.len⟩
/-- instances by their own == -/
theorem rcIns {sp : VSp} (hop : ∀ (A : Around) (Γ : Cn), Γ.g = g → Γ.E = (fun _ _ _ => False) → Room m A → OpR (cxAt X A) (compareOp .Eq) (lR Γ (vEqII false C Γ.x sp))) {fs gs : List (Str × Tr)} {b : Bool} (hsp : ∀ n (Q : VQ) x, Q (.bl b) n → sp [.ins C fs, .ins C gs] n Q x) : RcT X g m (.ins C fs) (.ins C gs) b := fun A pins s σ F H n v z w => by
  obtain ⟨x, r1, q1⟩ := id w.l
  obtain ⟨y, r2, q2⟩ := id w.r
  have run := hop A ⟨g, F, H, fun _ _ _ => False, fun _ _ _ => False⟩ rfl rfl w.sub.room pins s σ H x y v z (fun q H' => q = .bl b ∧ ∃ F', Fr F H F' H' ∧ VL.Sub g n F' H') (inv_at w.inv w.sub) r1 r2
    ⟨n, F, _, _, fun t n1 => t = .bl b ∧ n1 = n, ⟨fun _ _ _ _ _ _ _ _ _ _ _ h => h⟩, Fr.refl _ _, w.sb, q1, q2, ⟨rfl, rfl, hsp _ _ _ ⟨rfl, rfl⟩⟩, fun q t n' F' H' f' s' r' h => by
      obtain ⟨e1, e2⟩ := h
      subst e1; subst e2
      cases r'
      exact ⟨rfl, F', f', s'⟩⟩
  refine wpAny_mono run (fun q s' h => ?_) fun _ _ x => x
  obtain ⟨q1, H', I', rv, eb, F', f', sb'⟩ := h
  subst eb
  cases rv
  exact ⟨rfl, F', H', inv_un w.inv I', f', sb'⟩
/-- a pair -/
def prI (C : Addr) (p : List (Str × Tr) × Int) : Tr := .tup [.ins C p.1, .int p.2]
theorem asPair (hK : X.K = g.K) (hI : ∀ fs gs, ok fs → ok gs → RcT X g m (.ins C fs) (.ins C gs) (eqf fs gs)) (hS : ∀ F a fs gs, ok fs → ok gs → Rep g F (.ref a) (.ins C fs) → Rep g F (.ref a) (.ins C gs) → eqf fs gs = true) {p q : List (Str × Tr) × Int} (op : ok p.1) (oq : ok q.1) : AsT X g (m + 1) (prI C p) (prI C q) (eqf p.1 q.1 && decide (p.2 = q.2)) := by
  have asI : AsT X g m (.ins C p.1) (.ins C q.1) (eqf p.1 q.1) := (hI _ _ op oq).as (fun F x h => by rcases h with h | h <;> cases h <;> exact ⟨_, rfl⟩) (fun A pins s σ F H n a w => by
    obtain ⟨x, r1, q1⟩ := w.l
    obtain ⟨y, r2, q2⟩ := w.r
    cases q1 with
    | ins a1 b1 c1 => cases q2 with
      | ins a2 b2 c2 =>
        cases r1; cases r2
        exact hS _ _ _ _ op oq (.ins a1 b1 c1) (.ins a2 b2 c2))
  have two : RcT X g (m + 1) (prI C p) (prI C q) (allE (fun i => if i = 0 then eqf p.1 q.1 else decide (p.2 = q.2)) 0 [Tr.ins C p.1, .int p.2].length) := rcTup hK rfl fun i t u ht hu => by
    match i with
    | 0 => cases ht; cases hu; rw [if_pos rfl]; exact asI
    | 1 => cases ht; cases hu; rw [if_neg (by decide)]; exact (asInt _ _).mono (Nat.zero_le _)
    | i + 2 => cases ht
  have e : allE (fun i => if i = 0 then eqf p.1 q.1 else decide (p.2 = q.2)) 0 [Tr.ins C p.1, .int p.2].length = (eqf p.1 q.1 && decide (p.2 = q.2)) := by
    show (eqf p.1 q.1 && (decide (p.2 = q.2) && true)) = _
    rw [Bool.and_true]
  rw [e] at two
  refine two.as (fun F x h => by rcases h with h | h <;> cases h <;> exact ⟨_, rfl⟩) (fun A pins s σ F H n a w => ?_)
  obtain ⟨x, r1, q1⟩ := id w.l
  obtain ⟨y, r2, q2⟩ := id w.r
  cases q1 with
  | tup a1 b1 => cases q2 with
    | tup a2 b2 =>
      cases r1; cases r2
      obtain ⟨xs, rx, ⟨⟨c1, d1, o1, l1⟩, g1, hc1, k1, hd1⟩, _⟩ := w.inv.tuple (by rw [hK]; exact sqT_sub w.sb a1)
      obtain ⟨ys, ry, ⟨⟨c2, d2, o2, l2⟩, g2, hc2, k2, hd2⟩, _⟩ := w.inv.tuple (by rw [hK]; exact sqT_sub w.sb a2)
      dsimp only at hc1 hd1 hc2 hd2
      subst hc1; subst hd1; subst hc2; subst hd2
      rw [g1] at g2
      obtain rfl : xs = ys := by injection g2 with g2; injection g2 with _ _ g2; injection g2 with g2; exact congrArg Array.toList g2
      cases b1 with | cons z1 b1 => cases b1 with | cons z2 b1 => cases b1 with | nil =>
      cases b2 with | cons z3 b2 => cases b2 with | cons z4 b2 => cases b2 with | nil =>
      cases z1 with
      | ins i1 j1 k1 => cases z3 with
        | ins i2 j2 k2 => cases z2; cases z4; cases rx with
          | cons u1 rx => cases rx with
            | cons u2 rx => cases rx with
              | nil => cases ry with
                | cons u3 ry => cases ry with
                  | cons u4 ry =>
                    obtain rfl := (show _ = Value.ref _ from u1)
                    have e1 := (show Value.ref _ = Value.ref _ from u3)
                    injection e1 with e1
                    subst e1
                    have t := hS _ _ _ _ op oq (.ins i1 j1 k1) (.ins i2 j2 k2)
                    obtain ⟨t1, h1⟩ := u2
                    obtain ⟨t2, h2⟩ := u4
                    rw [h1] at h2
                    injection h2 with h2
                    rw [t, h2, decide_eq_true rfl]
                    rfl
def ansI (eqf : List (Str × Tr) → List (Str × Tr) → Bool) (l k : List (List (Str × Tr) × Int)) (i : Nat) : Bool := match l[i]?, k[i]? with
  | some p, some q => eqf p.1 q.1 && decide (p.2 = q.2)
  | _, _ => false
def eqL (eqf : List (Str × Tr) → List (Str × Tr) → Bool) : List (List (Str × Tr) × Int) → List (List (Str × Tr) × Int) → Bool
  | [], [] => true
  | p :: l, q :: k => (eqf p.1 q.1 && decide (p.2 = q.2)) && eqL eqf l k
  | _, _ => false
theorem allE_shift (e : Nat → Bool) : ∀ k i, allE e (i + 1) k = allE (fun j => e (j + 1)) i k
  | 0, _ => rfl
  | k + 1, i => by rw [allE_succ, allE_succ, allE_shift e k]
theorem eqL_all (eqf : List (Str × Tr) → List (Str × Tr) → Bool) : ∀ l k : List (List (Str × Tr) × Int), (decide (l.length = k.length) && allE (ansI eqf l k) 0 l.length) = eqL eqf l k
  | [], [] => rfl
  | [], q :: k => rfl
  | p :: l, [] => rfl
  | p :: l, q :: k => by
    have ih := eqL_all eqf l k
    rw [List.length_cons, List.length_cons, allE_succ, allE_shift]
    show (decide (l.length + 1 = k.length + 1) && ((eqf p.1 q.1 && decide (p.2 = q.2)) && allE (ansI eqf l k) 0 l.length)) = ((eqf p.1 q.1 && decide (p.2 = q.2)) && eqL eqf l k)
    rw [← ih]
    by_cases c : l.length = k.length
    · rw [decide_eq_true c, decide_eq_true (by omega), Bool.true_and, Bool.true_and]
    · rw [decide_eq_false c, decide_eq_false (by omega), Bool.false_and, Bool.false_and, Bool.and_false]
/-- xs == ys of two lists of pairs -/
def vEqP (C : Addr) (ok : List (Str × Tr) → Prop) (eqf : List (Str × Tr) → List (Str × Tr) → Bool) : VR2
  | .lst ts, .lst us, n, Q => ∃ l k, ts = l.map (prI C) ∧ us = k.map (prI C) ∧ (∀ p ∈ l, ok p.1) ∧ (∀ p ∈ k, ok p.1) ∧ Q (.bl (eqL eqf l k)) n
  | _, _, _, _ => False
theorem ov_eqP {Γ : Cn} (hK : X.K = Γ.g.K) (hr : Room (m + 2) X.A) (hI : ∀ fs gs, ok fs → ok gs → RcT X Γ.g m (.ins C fs) (.ins C gs) (eqf fs gs)) (hS : ∀ F a fs gs, ok fs → ok gs → Rep Γ.g F (.ref a) (.ins C fs) → Rep Γ.g F (.ref a) (.ins C gs) → eqf fs gs = true) : OpR X (compareOp .Eq) (lR Γ (vEqP C ok eqf)) := by
  intro pins s σ H x y v u Q' I rx ry ⟨n, F, tx, ty, Q, okk, fr, sb, r1, r2, q, kk⟩
  match tx, ty, q with
  | .lst ts, .lst us, ⟨l, k, e1, e2, o1, o2, q⟩ =>
    subst e1; subst e2
    have cmp : RcT X Γ.g (m + 2) (.lst (l.map (prI C))) (.lst (k.map (prI C))) (decide ((l.map (prI C)).length = (k.map (prI C)).length) && allE (ansI eqf l k) 0 (l.map (prI C)).length) := rcLst fun i t w ht hw => by
      rw [List.getElem?_map] at ht hw
      obtain ⟨p, hp, rfl⟩ := Option.map_eq_some_iff.mp ht
      obtain ⟨p2, hp2, rfl⟩ := Option.map_eq_some_iff.mp hw
      have a := asPair hK hI hS (o1 p (List.mem_of_getElem? hp)) (o2 p2 (List.mem_of_getElem? hp2))
      rw [show ansI eqf l k i = (eqf p.1 p2.1 && decide (p.2 = p2.2)) by unfold ansI; rw [hp, hp2]]
      exact a
    rw [List.length_map, List.length_map, eqL_all] at cmp
    show wpAny (model X.prog X.w) X.A (richCompare .Eq v u) (EP X pins σ Q') X.xe s
    refine wpAny_mono (cmp ⟨⟨hr, rfl⟩, I, sb, ⟨x, rx, r1⟩, ⟨y, ry, r2⟩⟩) (fun r s' ⟨e, F', H', J, f, sb'⟩ => ?_) fun _ _ z => z
    subst e
    exact ⟨.bl _, H', J, rfl, kk _ _ n F' H' f sb' (.bl _) q⟩
end
/-! xs.insert(0, e) -/
section
open PySem L2 DS PyProof.Rows
variable {X : Cx} {Γ : Cn} {te : RE} {i : Nat} {st : Stmt}
abbrev rInsR : V → List V → Hp → VK → Prop := fun x vs H Q => ∃ (l : Addr) (xs : List V) (i : Int) (y : V), x = .ref l ∧ vs = [.int i, y] ∧ H l = some (.lst xs) ∧ xs.length < sizeLine ∧ 0 ≤ i ∧ i < 2 ^ 63 ∧
  Q .non (upd H l (.lst (xs.take i.toNat ++ [y] ++ xs.drop i.toNat)))
def insQ (i : Nat) (D : VEnds) (ρ : List Sl) (e : RE) : Sl → Nat → Prop
  | .ol xs, n => xs.length < sizeLine ∧ e n ρ fun t n1 => D.nx n1 (ρ.set i (.ol (t :: xs)))
  | _, _ => False
def vIns0 (i : Nat) (e : RE) : RS := fun D n ρ => insQ i D ρ e (gt ρ i) n
theorem vs_ins0 (h : PS X st (tDrop (tBM X.K "list" rInsR (tVar i) (tCons (lE Γ (vC (.int 0))) (tCons (lE Γ te) tNil))))) : PS X st (lS Γ (vIns0 i te)) :=
  PS.imp h fun D' σ H ⟨ρ, n, F, D, rel, h, ok⟩ => by
    have h : insQ i D ρ te (gt ρ i) n := h
    cases eg : gt ρ i with
    | ol xs =>
      rw [eg] at h
      obtain ⟨a, vs, ei, es, h2, h3, h4, h5⟩ := own_get rel eg
      refine ⟨.ref a, es, .inl ⟨rfl, vs, .inl (.inl h2)⟩, ρ, n, F, fun t n1 => t = .int 0 ∧ n1 = n, rel, ⟨rfl, rfl⟩, fun v0 t0 n0 F0 H0 f0 s0 r0 q0 => ?_⟩
      obtain ⟨e0, e1⟩ := q0
      subst e0; subst e1
      cases r0
      refine ⟨ρ, _, F0, _, rel.go f0 s0, h.2, fun v t n1 F1 H1 f1 s1 r1 q1 => ?_⟩
      have f2 := f0.trans f1
      have k2 := f2.keep a _ h2 (by rw [h3]; intro z; cases z) (fun ps z => nomatch z)
      have k3 := f2.none h3 h2
      have k5 := h5.mono f2.le
      refine ⟨a, vs, 0, v, rfl, rfl, k2, by rw [k5.length]; exact h.1, Int.le_refl _, by decide, ?_⟩
      exact ok.nx _ n1 F1 σ _ f2.le ((rel.go f2 s1).updO (s1 := .ol (t :: xs)) ei rfl rfl es k2 (plain_lst _) k3 h4 ⟨a, v :: vs, rfl, upd_same, k3, h4, .cons r1 k5⟩) q1
    | _ => rw [eg] at h; exact h.elim
end
end VL
/-! a lambda handed to a def that tells whether it is refused: True or False -/
namespace VL
open PySem L2 DS PyProof.Rows
/-- the def calls the lambda; for an exception without fields of a class of al it answers so, otherwise False -/
def TTb (al : List (Addr × Bool)) : (XK → Hp → VK → Prop) → Hp → VK → Prop := fun tl H Q =>
  tl (fun cls d H' => ∃ C b, (C, b) ∈ al ∧ cls = .ref C ∧ d = none ∧ Q (.bl b) H') H fun _ H' => Q (.bl false) H'
def vToldB (al : List (Addr × Bool)) (te : LRE) : RE := fun n ρ Q => ∀ E F0 H0, te E F0 H0 (fun C fs n1 => fs = [] ∧ ∃ b, (C, b) ∈ al ∧ Q (.bl b) n1) n (hide ρ) fun _ n1 => Q (.bl false) n1
theorem ve_toldB {X : Cx} {Γ : Cn} {e : Expr} {al : List (Addr × Bool)} {te : LRE} (h : PE X e (LamX.tLam Γ.g.TT (TTb al) (tlamE Γ.g te))) : PE X e (lE Γ (vToldB al te)) :=
  PE.imp h fun σ H Q' ⟨ρ, n, F, Q, rel, h, k⟩ => ⟨rel.sub.tab, fun H1 eN T1 => by
    have f1 : Fr F H F H1 := Fr.ext eN
    have s1 := rel.sub.ext eN T1
    have rel1 := rel.go f1 s1
    refine ⟨⟨F, H1, fun C fs n1 => fs = [] ∧ ∃ b, (C, b) ∈ al ∧ Q (.bl b) n1⟩, VL.hide ρ, n, _, fun _ n1 => Q (.bl false) n1, rel1.hide rfl ⟨fun C' d fvs fts n' F' H' f' s' xa rf hx => ?_⟩ (Fr.refl _ _), h _ _ _, fun v t n' F' H' f' s' r' q' => ?_⟩
    · obtain ⟨e0, b, m, q⟩ := hx
      subst e0
      cases rf
      cases d with
      | none => exact ⟨C', b, m, rfl, rfl, k _ _ n' _ _ (f1.trans f') s' (.bl b) q⟩
      | some dd => exact absurd rfl xa.2
    · exact k _ _ n' F' H' (f1.trans f') s' (.bl false) q'⟩
/-- isinstance(e, c) in the clause that caught e, of a class without fields -/
def rIsD (K : PySem.W.Frag) (cls : Value) (d : Option Addr) (D a : Addr) : List V → Hp → VK → Prop := fun xs H Q => cls = .ref D ∧ d = none ∧ rIsE K D a xs H Q
theorem call_isD {X : Cx} {a D : Addr} {oe : Obj} {cls : Value} {d : Option Addr} {pn : List (Addr × Obj)} (C : ExcC X.K D) (hz : Zc cls d oe) (hf : ∃ vs, oe.data = .fields vs) : CallR (X.suite a ((a, oe) :: pn)) (.builtin "isinstance") (rIsD X.K cls d D a) := fun pins s σ H xs us Q I r h => by
  obtain ⟨e1, e2, h⟩ := h
  subst e1; subst e2
  exact call_isE C hz hf pins s σ H xs us Q I r h
end VL
/-! an instance called: x(e, ..), by its class's __call__ -/
namespace VL
open PySem L2 DS PyProof.Rows
theorem callO_of {K : PySem.W.Frag} {C f : Addr} {qual : Str} {st : Stmt} {fd : FuncData} (F : Fun K "__call__" qual st f fd) (m : Meth K C "__call__" f) : StX.CallO K C f := by
  obtain ⟨oc, od, kV, doc, pm, an, cdv, ct, osl, e, lk, _⟩ := F.ex
  exact ⟨m.at_, m.fn, by unfold PySem.W.fnIn; rw [lk]⟩
def instQ (C : Addr) : Tr → Nat → VQ → Prop
  | .ins C' fs, n, Q => C' = C ∧ Q (.ins C' fs) n
  | _, _, _ => False
def vCallO (C : Addr) (m : Nat) (x : XQ) (sp : VSp) (a : RE) (l : RA) : RE := fun n ρ Q => a n ρ fun t n1 => instQ C t n1 fun t n2 => l n2 ρ fun ts n3 => (t :: ts).length = m ∧ sp (t :: ts) n3 Q x
theorem ve_callO {X : Cx} {Γ : Cn} {k : Nat} {f C : Addr} {fd : FuncData} {ps : List Str} {m : Nat} {sp : VSp} {pos : Pos} {e fe : Expr} {es : List Expr} {tf : RE} {tl : RA} (hf : PE X fe (lE Γ tf)) (c : StX.CallO X.K C f) (F : FnOk X.prog X.w X.K X.mg X.base (L2.CX X.prog X.w) k f fd ps (lSp Γ.g m sp)) (hr : Room k X.A) (hb : Binds X.K fd ps []) (hx : Passes (L2.CX X.prog X.w) X Γ.E) (ha : PA X (e :: es) (lA Γ tl))
    (ht : eval (.Call fe (e :: es) [] pos) X.env = (do callWith pos (← eval fe X.env) [] (backTo pos (starEach (e :: es) X.env)) (backToKw pos (keywordEach [] X.env))) := by rfl)
    (he : starEach (e :: es) X.env = (false, eval e X.env) :: starEach es X.env := by rfl) (hpl : (backTo pos (starEach es X.env)).any (·.1) = false := by rfl) : PE X (.Call fe (e :: es) [] pos) (lE Γ (vCallO C m Γ.x sp tf tl)) :=
  PE.imp (StX.pe_callO hf c ((F.raw (ds := []) (dvs := []) hb .nil).imp (sp' := lSp Γ.g m sp) fun vs H Q E h => by rw [List.append_nil]; exact h) hr hx ha ht he hpl) fun σ H Q' ⟨ρ, n, F, Q, rel, h, kk⟩ => ⟨ρ, n, F, _, rel, h, fun v t n1 F1 H1 f1 s1 r1 q1 => by
    cases r1 with
    | ins e1 c1 r1 =>
      obtain ⟨rfl, q⟩ := q1
      exact ⟨_, rfl, ρ, n1, F1, _, rel.go f1 s1, q, fun vs ts n2 F2 H2 f2 s2 r2 q2 => ⟨.inr ⟨_, _, s2.at_ (f2.le _ _ e1)⟩, n2, F2, _, Q, Γ.x, q2.1, s2, .cons ((Rep.ins e1 c1 r1).mono f2.le) r2, q2.2, (kk.go f1).go f2, rel.ok.thenX ((rel.fr.trans f1).trans f2)⟩⟩
    | _ => exact q1.elim⟩
end VL
/-! own exceptions with two fields -/
namespace DS
open PySem L2 PySem.Spec PyProof.Rows LamX NdefX
/-- __init__(self, f, g): super().__init__(f, g); self.f = f; self.g = g -/
def spX2 (C : Addr) (f g : Str) : Sp := fun vs H Q _ => ∃ (a : Addr) (v u : V), vs = [.ref a, v, u] ∧ H a = some (exo a C none) ∧ ∀ dx, H dx = none → dx ≠ a → Q .non (upd (upd H dx (exd dx [(g, u), (f, v)])) a (exo a C (some dx)))
theorem mkX2 {C : Addr} {f g : Str} {H : Hp} {Q : XK} {v u : V} (b : ∀ d H', Same H H' → H' d = some (.xd [(g, u), (f, v)]) → Q (.ref C) (some d) H') : ∀ a, H a = none → spX2 C f g (.ref a :: ([v, u] ++ [])) (upd H a (exo a C none))
    (fun v H2 => v = .non ∧ ∃ (d : Addr) (fs : List (Str × V)), H2 a = some (exo a C (some d)) ∧ H2 d = some (exd d fs) ∧ H d = none ∧ Q (.ref C) (some d) (upd (del H2 a) d (.xd fs))) (fun _ _ _ => False) := fun a na =>
  ⟨a, v, u, rfl, upd_same, fun dx nd ne => by
    rw [upd_ne ne] at nd
    refine ⟨rfl, dx, [(g, u), (f, v)], upd_same, by rw [upd_ne ne, upd_same], nd, b dx _ (fun x o e => ?_) upd_same⟩
    have n1 : x ≠ dx := ne_of_none e nd
    have n2 : x ≠ a := ne_of_none e na
    rw [upd_ne n1, del_ne n2, upd_ne n2, upd_ne n1, upd_ne n2]
    exact e⟩
theorem upd_two {H : Hp} {dx a : Addr} {o p q : HO} (ne : dx ≠ a) : upd (upd (upd H dx o) a p) dx q = upd (upd H dx q) a p := by
  funext x
  by_cases h1 : x = dx
  · subst h1
    rw [upd_same, upd_ne ne, upd_same]
  · rw [upd_ne h1]
    by_cases h2 : x = a
    · subst h2
      rw [upd_same, upd_same]
    · rw [upd_ne h2, upd_ne h2, upd_ne h1, upd_ne h1]
end DS
namespace VL
open PySem L2 DS PyProof.Rows
/-- raise C(e, e'), C an own exception that keeps them under f and g -/
def vRaise2 (C : Addr) (f g : Str) (x : XQ) (e e' : RE) : RS := fun _ n ρ => e n ρ fun t n1 => e' n1 ρ fun u n2 => x C [(g, u), (f, t)] n2
theorem vs_raise2 {X : Cx} {Γ : Cn} {st : Stmt} {te te' : RE} {C : Addr} {f g : Str} (h : PS X st (fun _ σ H => tMkO C (spX2 C f g) [] (tCons (lE Γ te) (tCons (lE Γ te') tNil)) σ H fun cls d H' => Γ.E cls d H')) : PS X st (lS Γ (vRaise2 C f g Γ.x te te')) :=
  PS.imp h fun D' σ H ⟨ρ, n, F, D, rel, h, ok⟩ => ⟨ρ, n, F, _, rel, h, fun v t n1 F1 H1 f1 s1 r1 q1 => ⟨ρ, n1, F1, _, rel.go f1 s1, q1, fun u t2 n2 F2 H2 f2 s2 r2 q2 =>
    ⟨Nat.le_of_ble_eq_true rfl, mkX2 fun d H' sm e => rel.ok.out C (some d) [(g, u), (f, v)] [(g, t2), (f, t)] n2 F2 H' (((rel.fr.trans f1).trans f2).trans (Fr.ofSame sm)) (s2.ofSame sm) ⟨e, List.cons_ne_nil _ _⟩ (.cons r2 (.cons (r1.mono f2.le) .nil)) q2⟩⟩⟩
/-- target = x.pop() -/
def popL (i : Nat) (g : RG) (D : VEnds) (ρ : List Sl) (n : Nat) : Sl → Prop
  | .ol xs => ∃ t, xs[xs.length - 1]? = some t ∧ g t n (ρ.set i (.ol xs.dropLast)) D.nx
  | _ => False
def vPopG (i : Nat) (g : RG) : RS := fun D n ρ => popL i g D ρ n (gt ρ i)
theorem Reps.dropLast {g : Gb} {F : FH} {vs : List V} {ts : List Tr} (r : Reps g F vs ts) : Reps g F vs.dropLast ts.dropLast := by
  rw [List.dropLast_eq_take, List.dropLast_eq_take, r.length]
  exact r.take _
theorem vs_popG {X : Cx} {Γ : Cn} {i : Nat} {vs : List Nat} {e tg : Expr} {pos : Pos} {g : RG} (he : PE X e (tBM0 X.K "list" rPop (tVar i))) (hg : PG X tg (lG Γ vs g)) (hs : swapsWithSole [tg] e pos.line X.env = pure false := by rfl) (hw : swappedStores [tg] e X.env = pure none := by rfl)
    (h1 : (assignEach [tg] X.env).map (·.2) = [assign tg X.env] := by rfl) : PS X (.Assign [tg] e pos) (lS Γ (vPopG i g)) :=
  PS.imp (ps_asg he hg hs hw h1) fun D' σ H ⟨ρ, n, F, D, rel, h, ok⟩ => by
    have h : popL i g D ρ n (gt ρ i) := h
    cases eg : gt ρ i with
    | ol xs =>
      rw [eg] at h
      obtain ⟨t, ht, q⟩ := h
      obtain ⟨a, us, ei, es, h2, h3, h4, h5⟩ := own_get rel eg
      obtain ⟨w, hw, rw'⟩ := h5.get _ ht
      refine ⟨.ref a, es, .inl ⟨rfl, us, .inl (.inl h2)⟩, a, us, w, rfl, rfl, h2, by rw [h5.length]; exact hw, ?_⟩
      exact ⟨ρ.set i (.ol xs.dropLast), n, F, t, _, rel.updO (s1 := .ol xs.dropLast) ei rfl rfl es h2 (plain_lst _) h3 h4 ⟨a, us.dropLast, rfl, upd_same, h3, h4, h5.dropLast⟩, rw', q, fun σ2 ρ2 rel2 w2 q2 => ok.nx ρ2 n F σ2 _ (le.refl _) rel2 q2⟩
    | _ => rw [eg] at h; exact h.elim
end VL
/-! plain sums, numbers in the same house, floor sums -/
namespace MT
/-! sums -/
def sm (f : Nat → Int) : Nat → Int
  | 0 => 0
  | n + 1 => sm f n + f n
theorem sm_congr {f g : Nat → Int} : ∀ {n : Nat}, (∀ i, i < n → f i = g i) → sm f n = sm g n
  | 0, _ => rfl
  | n + 1, h => by
    show sm f n + f n = sm g n + g n
    rw [sm_congr fun i hi => h i (by omega), h n (by omega)]
theorem sm_add (f g : Nat → Int) : ∀ n, sm (fun i => f i + g i) n = sm f n + sm g n
  | 0 => rfl
  | n + 1 => by
    show sm (fun i => f i + g i) n + (f n + g n) = sm f n + f n + (sm g n + g n)
    rw [sm_add f g n]
    omega
theorem sm_mul (c : Int) (f : Nat → Int) : ∀ n, sm (fun i => c * f i) n = c * sm f n
  | 0 => (Int.mul_zero c).symm
  | n + 1 => by
    show sm (fun i => c * f i) n + c * f n = c * (sm f n + f n)
    rw [sm_mul c f n, Int.mul_add]
theorem sm_sub (f g : Nat → Int) (n : Nat) : sm (fun i => f i - g i) n = sm f n - sm g n := by
  have := sm_add (fun i => f i - g i) g n
  rw [sm_congr (g := f) fun i _ => by omega] at this
  omega
theorem sm_const (c : Int) : ∀ n : Nat, sm (fun _ => c) n = c * n
  | 0 => (Int.mul_zero c).symm
  | n + 1 => by
    show sm (fun _ => c) n + c = c * ((n + 1 : Nat) : Int)
    rw [sm_const c n]
    grind
theorem sm_zero (n : Nat) : sm (fun _ => 0) n = 0 := by rw [sm_const, Int.zero_mul]
theorem sm_comm (f : Nat → Nat → Int) (m : Nat) : ∀ n, sm (fun i => sm (f i) m) n = sm (fun j => sm (fun i => f i j) n) m
  | 0 => by
    show 0 = sm (fun _ => 0) m
    rw [sm_zero]
  | n + 1 => by
    show sm (fun i => sm (f i) m) n + sm (f n) m = sm (fun j => sm (fun i => f i j) n + f n j) m
    rw [sm_add (fun j => sm (fun i => f i j) n) (f n) m, sm_comm f m n]
theorem sm_app (f : Nat → Int) (m : Nat) : ∀ n, sm f (m + n) = sm f m + sm (fun i => f (m + i)) n
  | 0 => (Int.add_zero _).symm
  | n + 1 => by
    show sm f (m + n) + f (m + n) = sm f m + (sm (fun i => f (m + i)) n + f (m + n))
    rw [sm_app f m n]
    omega
theorem sm_blk (f : Nat → Int) (R : Nat) : ∀ n, sm f (R * n) = sm (fun j => sm (fun a => f (R * j + a)) R) n
  | 0 => rfl
  | n + 1 => by
    show sm f (R * n + R) = sm (fun j => sm (fun a => f (R * j + a)) R) n + sm (fun a => f (R * n + a)) R
    rw [sm_app, sm_blk f R n]
theorem sm_blk' (f : Nat → Int) (R n : Nat) : sm f (R * n) = sm (fun a => sm (fun j => f (R * j + a)) n) R := by
  rw [sm_blk, sm_comm]
theorem sm_at (v : Nat → Int) (c : Nat) : ∀ n, sm (fun j => if j = c then v j else 0) n = if c < n then v c else 0
  | 0 => (if_neg (Nat.not_lt_zero c)).symm
  | n + 1 => by
    show sm (fun j => if j = c then v j else 0) n + (if n = c then v n else 0) = _
    rw [sm_at v c n]
    by_cases h : n = c
    · subst h
      rw [if_neg (Nat.lt_irrefl _), if_pos rfl, if_pos (Nat.lt_succ_self _)]
      omega
    · rw [if_neg h]
      by_cases h2 : c < n
      · rw [if_pos h2, if_pos (by omega)]
        omega
      · rw [if_neg h2, if_neg (by omega)]
        rfl
theorem mod_iff {n x : Int} {i : Nat} (hn : 0 < n) (hi : (i : Int) < n) : i = (x % n).toNat ↔ n ∣ x - i := by
  have h0 := Int.emod_nonneg x (Int.ne_of_gt hn)
  have h1 := Int.emod_add_mul_ediv x n
  constructor
  · intro h
    exact ⟨x / n, by omega⟩
  · rintro ⟨k, hk⟩
    have : x % n = i := by
      rw [show x = i + n * k by omega, Int.add_mul_emod_self_left]
      exact Int.emod_eq_of_lt (by omega) hi
    omega
/-- a periodic function -/
def Per (f : Int → Int) (n : Int) : Prop := ∀ x y : Int, n ∣ x - y → f x = f y
theorem sm_perm {f : Int → Int} {n : Nat} (per : Per f n) {u v : Int} (c : Int) (h : (n : Int) ∣ u * v - 1) : sm (fun j => f (u * j + c)) n = sm (fun j => f j) n := by
  by_cases n0 : n = 0
  · subst n0; rfl
  have np : (0 : Int) < n := by omega
  have e1 : ∀ j, j < n → f (u * (j : Int) + c) = sm (fun i => if i = ((u * (j : Int) + c) % n).toNat then f i else 0) n := fun j _ => by
    have l := Int.emod_lt_of_pos (u * (j : Int) + c) np
    have g := Int.emod_nonneg (u * (j : Int) + c) (Int.ne_of_gt np)
    have d := Int.emod_add_mul_ediv (u * (j : Int) + c) n
    rw [sm_at (fun i => f i), if_pos (by omega)]
    refine per _ _ ⟨(u * (j : Int) + c) / n, ?_⟩
    omega
  rw [sm_congr e1, sm_comm]
  refine sm_congr fun i hi => ?_
  have e2 : ∀ j, j < n → (if i = ((u * (j : Int) + c) % n).toNat then f i else 0) = if j = ((v * (i - c)) % n).toNat then (fun _ => f i) j else 0 := fun j hj => by
    have q : i = ((u * (j : Int) + c) % n).toNat ↔ j = ((v * ((i : Int) - c)) % n).toNat := by
      rw [mod_iff np (by omega), mod_iff np (by omega)]
      obtain ⟨k, hk⟩ := h
      constructor
      · rintro ⟨m, hm⟩
        exact ⟨k * j - v * m, by grind⟩
      · rintro ⟨m, hm⟩
        exact ⟨k * (i - c) - u * m, by grind⟩
    by_cases z : i = ((u * (j : Int) + c) % n).toNat
    · rw [if_pos z, if_pos (q.mp z)]
    · rw [if_neg z, if_neg fun w => z (q.mpr w)]
  rw [sm_congr e2, sm_at]
  have l := Int.emod_lt_of_pos (v * ((i : Int) - c)) np
  have g := Int.emod_nonneg (v * ((i : Int) - c)) (Int.ne_of_gt np)
  rw [if_pos (by omega)]
theorem sm_shift {f : Int → Int} {n : Nat} (per : Per f n) (c : Int) : sm (fun j => f ((j : Int) + c)) n = sm (fun j => f j) n := by
  have := sm_perm per (u := 1) (v := 1) c (by simp)
  rw [← this]
  exact sm_congr fun i _ => by rw [Int.one_mul]
/-- a period's multiple -/
theorem sm_times {f : Int → Int} {n : Nat} (per : Per f n) (m : Nat) : sm (fun j => f j) (n * m) = m * sm (fun j => f j) n := by
  rw [sm_blk, sm_congr (g := fun _ => sm (fun j => f j) n), sm_const, Int.mul_comm]
  intro j _
  refine sm_congr fun a _ => per _ _ ⟨j, ?_⟩
  grind
theorem bez : ∀ (x y : Nat), ∃ a b : Int, a * x + b * y = (Nat.gcd x y : Int) := by
  intro x y
  induction x, y using Nat.gcd.induction with
  | H0 n => exact ⟨0, 1, by simp⟩
  | H1 m n hm ih =>
    obtain ⟨a, b, h⟩ := ih
    rw [Nat.gcd_rec]
    refine ⟨b - a * ((n / m : Nat) : Int), a, ?_⟩
    have e : ((n % m : Nat) : Int) = n - m * ((n / m : Nat) : Int) := by
      have := Nat.mod_add_div n m
      have : ((n % m + m * (n / m) : Nat) : Int) = n := by rw [this]
      rw [Int.natCast_add, Int.natCast_mul] at this
      omega
    rw [← h, e]
    grind
theorem bezI (x y : Int) : ∃ a b : Int, a * x + b * y = (Int.gcd x y : Int) := by
  obtain ⟨a, b, h⟩ := bez x.natAbs y.natAbs
  have s : ∀ z : Int, ∃ e : Int, (z.natAbs : Int) = e * z := fun z => by
    by_cases p : 0 ≤ z
    · exact ⟨1, by omega⟩
    · exact ⟨-1, by omega⟩
  obtain ⟨e, he⟩ := s x
  obtain ⟨d, hd⟩ := s y
  refine ⟨a * e, b * d, ?_⟩
  show _ = ((Nat.gcd x.natAbs y.natAbs : Nat) : Int)
  rw [← h, he, hd]
  grind
end MT
namespace MT
theorem hs_add {R H x m : Int} (hR : 0 < R) : (x + R * H * m) / R % H = x / R % H := by
  rw [Int.mul_assoc, Int.add_mul_ediv_left _ _ (Int.ne_of_gt hR), Int.add_mul_emod_self_left]
theorem md_split {R H x : Int} (hR : 0 < R) (hH : 0 < H) : x % (R * H) = R * (x / R % H) + x % R := by
  have e1 := Int.emod_add_mul_ediv x R
  have e2 := Int.emod_add_mul_ediv (x / R) H
  have a0 := Int.emod_nonneg x (Int.ne_of_gt hR)
  have a1 := Int.emod_lt_of_pos x hR
  have b0 := Int.emod_nonneg (x / R) (Int.ne_of_gt hH)
  have b1 := Int.emod_lt_of_pos (x / R) hH
  have e3 : x = (R * (x / R % H) + x % R) + R * H * (x / R / H) := by
    generalize x / R = q at *
    generalize q / H = t at *
    generalize q % H = r at *
    generalize x % R = y at *
    subst e2
    grind
  have l1 : 0 ≤ R * (x / R % H) := Int.mul_nonneg (by omega) b0
  have l2 : R * (x / R % H) ≤ R * (H - 1) := Int.mul_le_mul_of_nonneg_left (by omega) (by omega)
  have l3 : R * (H - 1) = R * H - R := by rw [Int.mul_sub, Int.mul_one]
  conv => lhs; rw [e3]
  rw [Int.add_mul_emod_self_left]
  exact Int.emod_eq_of_lt (by omega) (by omega)
theorem lt_iff {R H x : Int} (hR : 0 < R) (hH : 0 < H) : x % (R * H) < R ↔ x / R % H = 0 := by
  rw [md_split hR hH]
  have a0 := Int.emod_nonneg x (Int.ne_of_gt hR)
  have a1 := Int.emod_lt_of_pos x hR
  have b0 := Int.emod_nonneg (x / R) (Int.ne_of_gt hH)
  constructor
  · intro h
    refine Classical.byContradiction fun z => ?_
    have : R * 1 ≤ R * (x / R % H) := Int.mul_le_mul_of_nonneg_left (by omega) (by omega)
    omega
  · intro h
    rw [h]
    omega
/-- 1 where two courses are in the same house -/
def eH (R1 R2 H s1 s2 r1 r2 k : Int) : Int := if (s1 + r1 * k) / R1 % H = (s2 + r2 * k) / R2 % H then 1 else 0
theorem per_eH {R1 R2 H s1 s2 r1 r2 T : Int} (h1 : 0 < R1) (h2 : 0 < R2) (d1 : R1 * H ∣ r1 * T) (d2 : R2 * H ∣ r2 * T) : Per (eH R1 R2 H s1 s2 r1 r2) T := fun x y ⟨m, hm⟩ => by
  obtain ⟨a, ha⟩ := d1
  obtain ⟨b, hb⟩ := d2
  unfold eH
  rw [show s1 + r1 * x = s1 + r1 * y + R1 * H * (a * m) by grind, show s2 + r2 * x = s2 + r2 * y + R2 * H * (b * m) by grind, hs_add h1, hs_add h2]
/-- 1 where a number is below R modulo n -/
def ind (R n x : Int) : Int := if x % n < R then 1 else 0
theorem per_ind (R n : Int) : Per (ind R n) n := fun x y ⟨m, hm⟩ => by
  unfold ind
  rw [show x = y + n * m by omega, Int.add_mul_emod_self_left]
theorem sm_below (t : Int) : ∀ m : Nat, 0 ≤ t → t ≤ m → sm (fun i => if (i : Int) < t then 1 else 0) m = t
  | 0, h0, h1 => by show (0 : Int) = t; omega
  | m + 1, h0, h1 => by
    show sm (fun i => if (i : Int) < t then 1 else 0) m + (if (m : Int) < t then 1 else 0) = t
    by_cases h : t ≤ m
    · rw [sm_below t m h0 h, if_neg (by omega)]
      omega
    · have e : t = m + 1 := by omega
      rw [if_pos (by omega), sm_congr (g := fun _ => 1) (fun i hi => if_pos (by omega)), sm_const]
      omega
/-- the multiples of g, from C on, that lie below R modulo n -/
theorem ind_sum {R C : Int} {g m : Nat} (g0 : 0 < g) (R0 : 0 < R) (hR : R ≤ (g * m : Nat)) : sm (fun i => ind R (g * m : Nat) (C + g * (i : Int))) m = (R - 1 - C) / g - (-1 - C) / g := by
  have gp : (0 : Int) < g := by omega
  have c0 := Int.emod_nonneg C (Int.ne_of_gt gp)
  have c1 := Int.emod_lt_of_pos C gp
  have ce := Int.emod_add_mul_ediv C g
  have per : Per (fun y => ind R (g * m : Nat) (C % g + g * y)) m := fun x y ⟨k, hk⟩ => per_ind _ _ _ _ ⟨k, by
    rw [Int.natCast_mul]
    grind⟩
  have e1 : sm (fun i => ind R (g * m : Nat) (C + g * (i : Int))) m = sm (fun i => (fun y => ind R (g * m : Nat) (C % g + g * y)) ((i : Int) + C / g)) m := sm_congr fun i _ => by
    show ind _ _ _ = ind _ _ _
    rw [show C + (g : Int) * (i : Int) = C % g + g * ((i : Int) + C / g) by rw [Int.mul_add]; omega]
  rw [e1, sm_shift per]
  have d1 : (R - 1 - C) / g = (R - 1 - C % g) / g - C / g := by
    rw [show R - 1 - C = R - 1 - C % g + g * (-(C / g)) by rw [Int.mul_neg]; omega, Int.add_mul_ediv_left _ _ (Int.ne_of_gt gp)]
    omega
  have d2 : (-1 - C) / g = -1 - C / g := by
    have z : (-1 - C % g) / g = -1 := by
      rw [show -1 - C % g = (g - 1 - C % g) + g * (-1) by omega, Int.add_mul_ediv_left _ _ (Int.ne_of_gt gp), Int.ediv_eq_zero_of_lt (by omega) (by omega)]
      rfl
    rw [show -1 - C = -1 - C % g + g * (-(C / g)) by rw [Int.mul_neg]; omega, Int.add_mul_ediv_left _ _ (Int.ne_of_gt gp), z]
    omega
  rw [d1, d2]
  have t0 : -1 ≤ (R - 1 - C % g) / g := by
    rw [Int.le_ediv_iff_mul_le gp]
    omega
  have t1 : (R - 1 - C % g) / g < m := by
    rw [Int.ediv_lt_iff_lt_mul gp, Int.mul_comm]
    rw [Int.natCast_mul] at hR
    omega
  rw [show (R - 1 - C % g) / g - C / g - (-1 - C / g) = (R - 1 - C % g) / g + 1 by omega, ← sm_below ((R - 1 - C % g) / g + 1) m (by omega) (by omega)]
  refine sm_congr fun i hi => ?_
  show (if _ then _ else _) = _
  have b1 : (g : Int) * i ≤ g * (m - 1) := Int.mul_le_mul_of_nonneg_left (by omega) (by omega)
  have b0 : 0 ≤ (g : Int) * i := Int.mul_nonneg (by omega) (by omega)
  rw [Int.mul_sub, Int.mul_one] at b1
  rw [Int.emod_eq_of_lt (by omega) (by rw [Int.natCast_mul]; omega)]
  have q : C % g + g * (i : Int) < R ↔ (i : Int) < (R - 1 - C % g) / g + 1 := by
    rw [Int.lt_add_one_iff, Int.le_ediv_iff_mul_le gp, Int.mul_comm]
    omega
  by_cases z : C % g + g * (i : Int) < R
  · rw [if_pos z, if_pos (q.mp z)]
  · rw [if_neg z, if_neg fun w => z (q.mpr w)]
/-- the same along any progression -/
theorem ind_walk {R C D : Int} {n : Nat} (n0 : 0 < n) (R0 : 0 < R) (hR : R ≤ n) : sm (fun j => ind R n (C + D * (j : Int))) n = (Int.gcd D n) * ((R - 1 - C) / (Int.gcd D n) - (-1 - C) / (Int.gcd D n)) := by
  obtain ⟨a, b, hab⟩ := bezI D n
  have gd : ((Int.gcd D n : Nat) : Int) ∣ n := Int.gcd_dvd_right D n
  have gD : ((Int.gcd D n : Nat) : Int) ∣ D := Int.gcd_dvd_left D n
  have g0 : 0 < Int.gcd D n := Int.gcd_pos_of_ne_zero_right D (by omega)
  generalize Int.gcd D n = g at *
  obtain ⟨m, rfl⟩ := Int.natCast_dvd_natCast.mp gd
  obtain ⟨u, rfl⟩ := gD
  have gp : (g : Int) ≠ 0 := by omega
  have bz : u * a - 1 = m * (-b) := by
    have : (g : Int) * (a * u + b * m) = g * 1 := by
      rw [← hab, Int.natCast_mul]
      grind
    have := Int.eq_of_mul_eq_mul_left gp this
    grind
  rw [Nat.mul_comm g m, sm_blk', ← ind_sum (m := m) g0 R0 hR, ← sm_mul]
  have per : Per (fun y => ind R (g * m : Nat) (C + g * y)) m := fun x y ⟨k, hk⟩ => per_ind _ _ _ _ ⟨k, by
    rw [Int.natCast_mul]
    grind⟩
  have e1 : ∀ i, i < m → sm (fun j => ind R (m * g : Nat) (C + g * u * ((m * j + i : Nat) : Int))) g = (fun y => g * ind R (g * m : Nat) (C + g * y)) (u * (i : Int) + 0) := fun i _ => by
    rw [sm_congr (g := fun _ => ind R (g * m : Nat) (C + g * (u * (i : Int) + 0))) (fun j _ => ?_), sm_const, Int.mul_comm]
    rw [Nat.mul_comm m g]
    refine per_ind _ _ _ _ ⟨u * j, ?_⟩
    rw [Int.natCast_mul, Int.natCast_add, Int.natCast_mul]
    grind
  rw [sm_congr e1]
  refine sm_perm (f := fun y => g * ind R (g * m : Nat) (C + g * y)) (fun x y h => ?_) 0 ⟨_, bz⟩
  exact congrArg (fun z => (g : Int) * z) (per x y h)
/-- how many of all numbers below R1 * R2 * H are in the same house -/
theorem home {R1 R2 H : Nat} (h1 : 0 < R1) (h2 : 0 < R2) (h3 : 0 < H) {s1 s2 r1 r2 p q : Int} (bz : p * r1 + q * R1 = 1) :
    sm (fun k => eH R1 R2 H s1 s2 r1 r2 k) (R1 * (R2 * H)) = (Int.gcd (r2 * R1 - r1 * R2) (R2 * H : Nat)) * sm (fun a => ((R2 : Int) - 1 - (s2 + (p * r2 + q * R2) * ((a : Int) - s1))) / (Int.gcd (r2 * R1 - r1 * R2) (R2 * H : Nat)) - (-1 - (s2 + (p * r2 + q * R2) * ((a : Int) - s1))) / (Int.gcd (r2 * R1 - r1 * R2) (R2 * H : Nat))) R1 := by
  have i1 : (0 : Int) < R1 := by omega
  have i2 : (0 : Int) < R2 := by omega
  have i3 : (0 : Int) < H := by omega
  have perE : Per (eH R1 R2 H s1 s2 r1 r2) (R1 * (R2 * H)) := per_eH i1 i2 ⟨r1 * R2, by grind⟩ ⟨r2 * R1, by grind⟩
  have perJ : ∀ x, Per (fun y => eH R1 R2 H s1 s2 r1 r2 (x + R1 * y)) (R2 * H : Nat) := fun x y z ⟨k, hk⟩ => perE _ _ ⟨k, by
    rw [Int.natCast_mul] at hk
    grind⟩
  have perF : Per (fun x => sm (fun j => eH R1 R2 H s1 s2 r1 r2 (x + R1 * (j : Int))) (R2 * H)) R1 := fun x y ⟨k, hk⟩ => by
    show sm _ _ = sm _ _
    rw [← sm_shift (perJ y) k]
    refine sm_congr fun j _ => ?_
    show eH _ _ _ _ _ _ _ _ = eH _ _ _ _ _ _ _ _
    rw [show x + R1 * (j : Int) = y + R1 * ((j : Int) + k) by grind]
  rw [sm_blk', sm_congr (g := fun a => (fun x => sm (fun j => eH R1 R2 H s1 s2 r1 r2 (x + R1 * (j : Int))) (R2 * H)) (a : Int)) (fun a _ => sm_congr fun j _ => by
    rw [show ((R1 * j + a : Nat) : Int) = (a : Int) + R1 * (j : Int) by rw [Int.natCast_add, Int.natCast_mul]; omega]), ← sm_perm perF (u := p) (v := r1) (-(p * s1)) ⟨-q, by grind⟩, ← sm_mul]
  refine sm_congr fun a ha => ?_
  rw [← ind_walk (Nat.mul_pos h2 h3) i2 (by
    have : R2 * 1 ≤ R2 * H := Nat.mul_le_mul_left _ h3
    omega)]
  refine sm_congr fun j _ => ?_
  unfold eH ind
  rw [Int.natCast_mul]
  have a1 : (s1 + r1 * (p * (a : Int) + -(p * s1) + R1 * (j : Int))) / R1 = r1 * j - q * (a - s1) := by
    rw [show s1 + r1 * (p * (a : Int) + -(p * s1) + R1 * (j : Int)) = a + R1 * (r1 * j - q * (a - s1)) by grind, Int.add_mul_ediv_left _ _ (Int.ne_of_gt i1), Int.ediv_eq_zero_of_lt (by omega) (by omega), Int.zero_add]
  have a2 : s2 + (p * r2 + q * R2) * ((a : Int) - s1) + (r2 * R1 - r1 * R2) * (j : Int) = s2 + r2 * (p * (a : Int) + -(p * s1) + R1 * (j : Int)) + R2 * (-(r1 * j - q * (a - s1))) := by grind
  have key : (s1 + r1 * (p * (a : Int) + -(p * s1) + R1 * (j : Int))) / R1 % H = (s2 + r2 * (p * (a : Int) + -(p * s1) + R1 * (j : Int))) / R2 % H ↔ (s2 + (p * r2 + q * R2) * ((a : Int) - s1) + (r2 * R1 - r1 * R2) * (j : Int)) % (R2 * H) < R2 := by
    rw [lt_iff i2 i3, a1, a2, Int.add_mul_ediv_left _ _ (Int.ne_of_gt i2)]
    generalize (s2 + r2 * (p * (a : Int) + -(p * s1) + R1 * (j : Int))) / R2 = y
    generalize r1 * j - q * (a - s1) = x
    rw [Int.emod_eq_emod_iff_emod_sub_eq_zero, show y + -x = -(x - y) by omega]
    constructor
    · intro h
      exact Int.emod_eq_zero_of_dvd (Int.dvd_neg.mpr (Int.dvd_of_emod_eq_zero h))
    · intro h
      exact Int.emod_eq_zero_of_dvd (Int.dvd_neg.mp (Int.dvd_of_emod_eq_zero h))
  by_cases z : (s1 + r1 * (p * (a : Int) + -(p * s1) + R1 * (j : Int))) / R1 % H = (s2 + r2 * (p * (a : Int) + -(p * s1) + R1 * (j : Int))) / R2 % H
  · rw [if_pos z, if_pos (key.mp z)]
  · rw [if_neg z, if_neg fun w => z (key.mpr w)]
end MT
namespace MT
/-! floor sums -/
theorem sm_cut (f : Nat → Int) (t : Nat) : ∀ m : Nat, t ≤ m → sm (fun i => if i < t then f i else 0) m = sm f t
  | 0, h => by rw [Nat.le_zero.mp h]; rfl
  | m + 1, h => by
    show sm (fun i => if i < t then f i else 0) m + (if m < t then f m else 0) = sm f t
    by_cases q : t ≤ m
    · rw [sm_cut f t m q, if_neg (by omega)]
      omega
    · have e : t = m + 1 := by omega
      subst e
      rw [if_pos (by omega), sm_congr (g := f) (fun i hi => if_pos (by omega))]
      rfl
theorem sm_lin : ∀ m : Nat, 2 * sm (fun k => (k : Int)) m = m * (m - 1)
  | 0 => rfl
  | m + 1 => by
    show 2 * (sm (fun k => (k : Int)) m + m) = _
    rw [Int.mul_add, sm_lin m]
    grind
theorem sm_sq : ∀ m : Nat, 6 * sm (fun k => (k : Int) * k) m = (m - 1) * m * (2 * m - 1)
  | 0 => rfl
  | m + 1 => by
    show 6 * (sm (fun k => (k : Int) * k) m + m * m) = _
    rw [Int.mul_add, sm_sq m]
    grind
theorem sm_odd : ∀ m : Nat, sm (fun k => 2 * (k : Int) + 1) m = m * m
  | 0 => rfl
  | m + 1 => by
    show sm (fun k => 2 * (k : Int) + 1) m + (2 * m + 1) = _
    rw [sm_odd m]
    grind
def fl (r a b : Int) (k : Nat) : Int := (a * k + b) / r
def f1 (r a b : Int) (m : Nat) : Int := sm (fl r a b) m
def f2 (r a b : Int) (m : Nat) : Int := sm (fun k => (k : Int) * fl r a b k) m
def f3 (r a b : Int) (m : Nat) : Int := sm (fun k => fl r a b k * fl r a b k) m
section
variable {r a b : Int} {m : Nat}
theorem fl_split (hr : 0 < r) (k : Nat) : fl r a b k = a / r * k + b / r + fl r (a % r) (b % r) k := by
  unfold fl
  have e1 := Int.emod_add_mul_ediv a r
  have e2 := Int.emod_add_mul_ediv b r
  rw [show a * (k : Int) + b = a % r * k + b % r + r * (a / r * k + b / r) by grind, Int.add_mul_ediv_left _ _ (Int.ne_of_gt hr)]
  omega
theorem raise1 (hr : 0 < r) : f1 r a b m = f1 r (a % r) (b % r) m + a / r * (m * (m - 1) / 2) + b / r * m := by
  have e : (m : Int) * (m - 1) / 2 = sm (fun k => (k : Int)) m := by
    rw [← sm_lin, Int.mul_ediv_cancel_left _ (by decide)]
  unfold f1
  rw [e, ← sm_const, ← sm_mul, sm_congr (fun k _ => fl_split hr k), sm_add, sm_add]
  omega
theorem raise2 (hr : 0 < r) : f2 r a b m = f2 r (a % r) (b % r) m + a / r * ((m - 1) * m * (2 * m - 1) / 6) + b / r * (m * (m - 1) / 2) := by
  have e : (m : Int) * (m - 1) / 2 = sm (fun k => (k : Int)) m := by
    rw [← sm_lin, Int.mul_ediv_cancel_left _ (by decide)]
  have e2 : ((m : Int) - 1) * m * (2 * m - 1) / 6 = sm (fun k => (k : Int) * k) m := by
    rw [← sm_sq, Int.mul_ediv_cancel_left _ (by decide)]
  unfold f2
  rw [e, e2, ← sm_mul, ← sm_mul, ← sm_add, ← sm_add]
  refine sm_congr fun k _ => ?_
  rw [fl_split hr k]
  grind
theorem raise3 (hr : 0 < r) : f3 r a b m = f3 r (a % r) (b % r) m + (a / r * (a / r) * ((m - 1) * m * (2 * m - 1) / 6) + b / r * (b / r) * m + 2 * (a / r) * (b / r) * (m * (m - 1) / 2)) + 2 * (a / r) * f2 r (a % r) (b % r) m + 2 * (b / r) * f1 r (a % r) (b % r) m := by
  have e : (m : Int) * (m - 1) / 2 = sm (fun k => (k : Int)) m := by
    rw [← sm_lin, Int.mul_ediv_cancel_left _ (by decide)]
  have e2 : ((m : Int) - 1) * m * (2 * m - 1) / 6 = sm (fun k => (k : Int) * k) m := by
    rw [← sm_sq, Int.mul_ediv_cancel_left _ (by decide)]
  unfold f3 f2 f1
  rw [e, e2, ← sm_mul, ← sm_mul, ← sm_mul, ← sm_mul, ← sm_const, ← sm_add, ← sm_add, ← sm_add, ← sm_add, ← sm_add]
  refine sm_congr fun k _ => ?_
  rw [fl_split hr k]
  grind
/-- counting the points below a line the other way -/
theorem dbl {top : Nat} (A : Nat → Int) (C : Nat → Int) (hr : 0 < r) (a0 : 0 ≤ a) (ar : a < r) (b0 : 0 ≤ b) (br : b < r) (m0 : 0 < m) (ht : (top : Int) = (a * (m - 1) + b) / r) :
    sm (fun k => C k * sm A (fl r a b k).toNat) m = sm (fun i => A i * (sm C m - sm C (((r * (i : Int) + (r - b - 1)) / a).toNat + 1))) top := by
  have up : ∀ k, k < m → 0 ≤ fl r a b k ∧ fl r a b k ≤ top := fun k hk => by
    unfold fl
    have z0 : 0 ≤ a * (k : Int) := Int.mul_nonneg a0 (by omega)
    have z1 : a * (k : Int) ≤ a * (m - 1) := Int.mul_le_mul_of_nonneg_left (by omega) a0
    refine ⟨Int.ediv_nonneg (by omega) (by omega), ?_⟩
    rw [ht]
    exact Int.ediv_le_ediv hr (by omega)
  have e1 : ∀ k, k < m → C k * sm A (fl r a b k).toNat = sm (fun i => if i < (fl r a b k).toNat then C k * A i else 0) top := fun k hk => by
    have u := up k hk
    rw [← sm_cut A _ top (by omega), ← sm_mul]
    refine sm_congr fun i _ => ?_
    show C k * (if _ then _ else _) = _
    by_cases z : i < (fl r a b k).toNat
    · rw [if_pos z, if_pos z]
    · rw [if_neg z, if_neg z, Int.mul_zero]
  rw [sm_congr e1, sm_comm]
  refine sm_congr fun i hi => ?_
  have tp := Int.emod_add_mul_ediv (a * (m - 1) + b) r
  have tn := Int.emod_nonneg (a * (m - 1) + b) (Int.ne_of_gt hr)
  have li : r * ((i : Int) + 1) ≤ a * (m - 1) + b := by
    have : r * ((i : Int) + 1) ≤ r * top := Int.mul_le_mul_of_nonneg_left (by omega) (by omega)
    rw [ht] at this
    omega
  have ap : 0 < a := by
    refine Classical.byContradiction fun z => ?_
    have : a = 0 := by omega
    subst this
    have : r * 1 ≤ r * ((i : Int) + 1) := Int.mul_le_mul_of_nonneg_left (by omega) (by omega)
    omega
  have c0 : 0 ≤ (r * (i : Int) + (r - b - 1)) / a := Int.ediv_nonneg (by have := Int.mul_nonneg (Int.le_of_lt hr) (show (0 : Int) ≤ i by omega); omega) a0
  have c1 : (r * (i : Int) + (r - b - 1)) / a < m := by
    rw [Int.ediv_lt_iff_lt_mul ap]
    have y1 : (m : Int) * a = a * (m - 1) + a := by grind
    have y2 : r * ((i : Int) + 1) = r * i + r := by grind
    omega
  have key : ∀ k, i < (fl r a b k).toNat ↔ ¬ k < ((r * (i : Int) + (r - b - 1)) / a).toNat + 1 := fun k => by
    have q1 : i < (fl r a b k).toNat ↔ (i : Int) + 1 ≤ fl r a b k := by omega
    have q2 : (i : Int) + 1 ≤ fl r a b k ↔ r * (i : Int) + (r - b - 1) < (k : Int) * a := by
      unfold fl
      rw [Int.le_ediv_iff_mul_le hr, Int.mul_comm a, Int.mul_comm, Int.mul_add, Int.mul_one]
      omega
    have q3 : (r * (i : Int) + (r - b - 1)) / a < k ↔ r * (i : Int) + (r - b - 1) < (k : Int) * a := Int.ediv_lt_iff_lt_mul ap
    rw [q1, q2, ← q3]
    omega
  rw [← sm_cut C (((r * (i : Int) + (r - b - 1)) / a).toNat + 1) m (by omega), ← sm_sub, ← sm_mul]
  refine sm_congr fun k _ => ?_
  show _ = A i * (C k - if _ then _ else _)
  by_cases z : k < ((r * (i : Int) + (r - b - 1)) / a).toNat + 1
  · rw [if_neg (fun w => (key k).mp w z), if_pos z, Int.sub_self, Int.mul_zero]
  · rw [if_pos ((key k).mpr z), if_neg z, Int.sub_zero, Int.mul_comm]
theorem toNat_sm1 {x : Int} (h : 0 ≤ x) : sm (fun _ => 1) x.toNat = x := by rw [sm_const]; omega
variable {top : Nat}
theorem fold_c (hr : 0 < r) (b0 : 0 ≤ b) (br : b < r) (a0 : 0 ≤ a) (i : Nat) : 0 ≤ (r * (i : Int) + (r - b - 1)) / a :=
  Int.ediv_nonneg (by have := Int.mul_nonneg (Int.le_of_lt hr) (show (0 : Int) ≤ i by omega); omega) a0
theorem fl_nn (hr : 0 < r) (a0 : 0 ≤ a) (b0 : 0 ≤ b) (k : Nat) : 0 ≤ fl r a b k := by
  have z0 : 0 ≤ a * (k : Int) := Int.mul_nonneg a0 (by omega)
  exact Int.ediv_nonneg (by omega) (by omega)
theorem fold1 (hr : 0 < r) (a0 : 0 ≤ a) (ar : a < r) (b0 : 0 ≤ b) (br : b < r) (m0 : 0 < m) (ht : (top : Int) = (a * (m - 1) + b) / r) : f1 r a b m = (m - 1) * top - f1 a r (r - b - 1) top := by
  have h := dbl (fun _ => 1) (fun _ => 1) hr a0 ar b0 br m0 ht
  have e1 : sm (fun k => 1 * sm (fun _ => 1) (fl r a b k).toNat) m = f1 r a b m := sm_congr fun k _ => by rw [toNat_sm1 (fl_nn hr a0 b0 k), Int.one_mul]
  rw [← e1, h, ← sm_const]
  unfold f1
  rw [← sm_sub]
  refine sm_congr fun i _ => ?_
  have := fold_c hr b0 br a0 i
  rw [sm_const, sm_const]
  unfold fl
  omega
theorem fold2 (hr : 0 < r) (a0 : 0 ≤ a) (ar : a < r) (b0 : 0 ≤ b) (br : b < r) (m0 : 0 < m) (ht : (top : Int) = (a * (m - 1) + b) / r) : 2 * f2 r a b m = top * (m - 1) * m - f3 a r (r - b - 1) top - f1 a r (r - b - 1) top := by
  have h := dbl (fun _ => 1) (fun k => (k : Int)) hr a0 ar b0 br m0 ht
  have e1 : sm (fun k => (k : Int) * sm (fun _ => 1) (fl r a b k).toNat) m = f2 r a b m := sm_congr fun k _ => by rw [toNat_sm1 (fl_nn hr a0 b0 k)]
  rw [← e1, h, ← sm_mul, show (top : Int) * (m - 1) * m = ((m - 1) * m) * top by grind, ← sm_const]
  unfold f3 f1
  rw [← sm_sub, ← sm_sub]
  refine sm_congr fun i _ => ?_
  have c := fold_c hr b0 br a0 i
  have l1 := sm_lin m
  have l2 := sm_lin (((r * (i : Int) + (r - b - 1)) / a).toNat + 1)
  have e : ((((r * (i : Int) + (r - b - 1)) / a).toNat + 1 : Nat) : Int) = (r * (i : Int) + (r - b - 1)) / a + 1 := by omega
  rw [e] at l2
  unfold fl
  rw [Int.one_mul, Int.mul_sub, l1, l2]
  grind
theorem fold3 (hr : 0 < r) (a0 : 0 ≤ a) (ar : a < r) (b0 : 0 ≤ b) (br : b < r) (m0 : 0 < m) (ht : (top : Int) = (a * (m - 1) + b) / r) : f3 r a b m = (m - 1) * (top * top) - 2 * f2 a r (r - b - 1) top - f1 a r (r - b - 1) top := by
  have h := dbl (fun i => 2 * (i : Int) + 1) (fun _ => 1) hr a0 ar b0 br m0 ht
  have e1 : sm (fun k => 1 * sm (fun i => 2 * (i : Int) + 1) (fl r a b k).toNat) m = f3 r a b m := sm_congr fun k _ => by
    rw [sm_odd, Int.one_mul, Int.toNat_of_nonneg (fl_nn hr a0 b0 k)]
  rw [← e1, h, ← sm_odd top, ← sm_mul]
  unfold f2 f1
  rw [← sm_mul, ← sm_sub, ← sm_sub]
  refine sm_congr fun i _ => ?_
  have c := fold_c hr b0 br a0 i
  rw [sm_const, sm_const, show ((((r * (i : Int) + (r - b - 1)) / a).toNat + 1 : Nat) : Int) = (r * (i : Int) + (r - b - 1)) / a + 1 by omega]
  unfold fl
  grind
end
end MT
/-! courses -/
namespace MT
open DS VL
def nR (R H : Int) : Int := if 1 < H then R else 1
def tnd (R H r : Int) : Prop := H = 2 ∧ R < r % (nR R H * H)
instance (R H r : Int) : Decidable (tnd R H r) := inferInstanceAs (Decidable (_ ∧ _))
def nS (R H s r : Int) : Int := (if tnd R H r then R - 1 - s else s) % (nR R H * H)
def nr (R H r : Int) : Int := (if tnd R H r then -r else r) % (nR R H * H)
section
variable {R H s r k : Int}
theorem nR_pos (hR : 0 < R) : 0 < nR R H := by unfold nR; split <;> omega
theorem hs_mod {M a b : Int} (hR : 0 < R) (e : M = R * H) : (a % M + b % M * k) / R % H = (a + b * k) / R % H := by
  have e1 := Int.emod_add_mul_ediv a M
  have e2 := Int.emod_add_mul_ediv b M
  rw [show a + b * k = (a % M + b % M * k) + R * H * (a / M + b / M * k) by grind, hs_add hR]
theorem norm_house (hR : 0 < R) (hH : 0 < H) (k : Int) : (nS R H s r + nr R H r * k) / nR R H % H = (s + r * k) / R % H := by
  unfold nS nr
  rw [hs_mod (nR_pos hR) rfl]
  by_cases h1 : 1 < H
  · have eR : nR R H = R := if_pos h1
    rw [eR]
    by_cases t : tnd R H r
    · rw [if_pos t, if_pos t]
      obtain ⟨h2, _⟩ := t
      subst h2
      have d : (R - 1 - s + -r * k) / R = -((s + r * k) / R) := by
        have e1 := Int.emod_add_mul_ediv (s + r * k) R
        have a0 := Int.emod_nonneg (s + r * k) (Int.ne_of_gt hR)
        have a1 := Int.emod_lt_of_pos (s + r * k) hR
        rw [show R - 1 - s + -r * k = (R - 1 - (s + r * k) % R) + R * (-((s + r * k) / R)) by grind, Int.add_mul_ediv_left _ _ (Int.ne_of_gt hR), Int.ediv_eq_zero_of_lt (by omega) (by omega), Int.zero_add]
      rw [d]
      omega
    · rw [if_neg t, if_neg t]
  · have : H = 1 := by omega
    subst this
    rw [Int.emod_one, Int.emod_one]
theorem gcd_mod {a b M : Int} (d : b ∣ M) : Int.gcd (a % M) b = Int.gcd a b := by
  obtain ⟨c, hc⟩ := d
  have e := Int.emod_add_mul_ediv a M
  rw [show a % M = a + b * (-(c * (a / M))) by rw [hc] at e ⊢; grind]
  exact Int.gcd_add_mul_left_left ..
theorem nr_gcd {b : Int} (d : b ∣ nR R H * H) : Int.gcd (nr R H r) b = Int.gcd r b := by
  unfold nr
  rw [gcd_mod d]
  split
  · exact Int.neg_gcd ..
  · rfl
theorem nr_nn (hR : 0 < R) (hH : 0 < H) : 0 ≤ nr R H r := Int.emod_nonneg _ (Int.ne_of_gt (Int.mul_pos (nR_pos hR) hH))
theorem nr_lt (hR : 0 < R) (hH : 0 < H) : nr R H r < nR R H * H := Int.emod_lt_of_pos _ (Int.mul_pos (nR_pos hR) hH)
theorem nS_nn (hR : 0 < R) (hH : 0 < H) : 0 ≤ nS R H s r := Int.emod_nonneg _ (Int.ne_of_gt (Int.mul_pos (nR_pos hR) hH))
theorem nS_lt (hR : 0 < R) (hH : 0 < H) : nS R H s r < nR R H * H := Int.emod_lt_of_pos _ (Int.mul_pos (nR_pos hR) hH)
theorem nr_one (g : Int.gcd r R = 1) : Int.gcd (nr R H r) (nR R H) = 1 := by
  rw [nr_gcd ⟨H, rfl⟩]
  unfold nR
  split
  · exact g
  · exact Int.gcd_one
end
/-- the least common multiple, as it is reckoned -/
def lc (x y : Int) : Int := x / (Int.gcd x y) * y
/-- the turn of a course -/
def tu (R H r : Int) : Int := R * H / (Int.gcd r (R * H))
theorem lc_nat (x y : Nat) : lc x y = (Nat.lcm x y : Nat) := by
  unfold lc
  show (x : Int) / ((Nat.gcd x y : Nat) : Int) * y = _
  rw [← Int.natCast_ediv, ← Int.natCast_mul]
  congr 1
  unfold Nat.lcm
  rw [Nat.mul_comm, Nat.mul_comm x y, Nat.mul_div_assoc _ (Nat.gcd_dvd_left x y)]
theorem tu_nn {R H r : Int} (hR : 0 < R) (hH : 0 < H) : 0 < tu R H r ∧ tu R H r * (Int.gcd r (R * H)) = R * H := by
  have p := Int.mul_pos hR hH
  have d : ((Int.gcd r (R * H) : Nat) : Int) ∣ R * H := Int.gcd_dvd_right ..
  have g0 : (0 : Int) < (Int.gcd r (R * H) : Nat) := by
    have := Int.gcd_pos_of_ne_zero_right r (Int.ne_of_gt p)
    omega
  refine ⟨Int.ediv_pos_of_pos_of_dvd p (Int.le_of_lt g0) d, Int.ediv_mul_cancel d⟩
theorem lc_dvd {x y L : Int} (hx : 0 < x) (hy : 0 < y) (hL : 0 < L) (a : x ∣ L) (b : y ∣ L) : 0 < lc x y ∧ lc x y ∣ L ∧ x ∣ lc x y ∧ y ∣ lc x y := by
  obtain ⟨x, rfl⟩ := Int.eq_ofNat_of_zero_le (Int.le_of_lt hx)
  obtain ⟨y, rfl⟩ := Int.eq_ofNat_of_zero_le (Int.le_of_lt hy)
  obtain ⟨L, rfl⟩ := Int.eq_ofNat_of_zero_le (Int.le_of_lt hL)
  rw [lc_nat]
  refine ⟨?_, Int.natCast_dvd_natCast.mpr (Nat.lcm_dvd (Int.natCast_dvd_natCast.mp a) (Int.natCast_dvd_natCast.mp b)), Int.natCast_dvd_natCast.mpr (Nat.dvd_lcm_left ..), Int.natCast_dvd_natCast.mpr (Nat.dvd_lcm_right ..)⟩
  have := Nat.lcm_pos (m := x) (n := y) (by omega) (by omega)
  omega
/-- how many numbers below T are in the same house -/
def cnt (R1 R2 H s1 s2 r1 r2 T : Int) : Int := sm (fun k => eH R1 R2 H s1 s2 r1 r2 k) T.toNat
theorem cnt_congr {R1 R2 H s1 s2 r1 r2 R1' R2' s1' s2' r1' r2' T : Int} (h1 : ∀ k : Int, (s1 + r1 * k) / R1 % H = (s1' + r1' * k) / R1' % H) (h2 : ∀ k : Int, (s2 + r2 * k) / R2 % H = (s2' + r2' * k) / R2' % H) : cnt R1 R2 H s1 s2 r1 r2 T = cnt R1' R2' H s1' s2' r1' r2' T := sm_congr fun k _ => by
  unfold eH
  rw [h1, h2]
theorem tu_per {R H r T : Int} (hR : 0 < R) (hH : 0 < H) (d : tu R H r ∣ T) : R * H ∣ r * T := by
  obtain ⟨c, rfl⟩ := d
  obtain ⟨e, he⟩ : ((Int.gcd r (R * H) : Nat) : Int) ∣ r := Int.gcd_dvd_left ..
  have := (tu_nn (r := r) hR hH).2
  refine ⟨e * c, ?_⟩
  generalize tu R H r = t at *
  generalize ((Int.gcd r (R * H) : Nat) : Int) = g at *
  rw [← this, he]
  grind
/-- what stays in a joint turn, from what stays among all numbers below R1 * R2 * H -/
theorem stay {R1 R2 H s1 s2 r1 r2 : Int} (h1 : 0 < R1) (h2 : 0 < R2) (h3 : 0 < H) : lc (tu R1 H r1) (tu R2 H r2) * cnt R1 R2 H s1 s2 r1 r2 (R1 * (R2 * H)) / (R1 * R2 * H) = cnt R1 R2 H s1 s2 r1 r2 (lc (tu R1 H r1) (tu R2 H r2)) ∧ 0 < lc (tu R1 H r1) (tu R2 H r2) ∧ lc (tu R1 H r1) (tu R2 H r2) ∣ R1 * R2 * H := by
  have a1 := tu_nn (r := r1) h1 h3
  have a2 := tu_nn (r := r2) h2 h3
  have L0 := Int.mul_pos (Int.mul_pos h1 h2) h3
  obtain ⟨T0, Td, d1, d2⟩ := lc_dvd a1.1 a2.1 L0 ⟨Int.gcd r1 (R1 * H) * R2, by rw [← Int.mul_assoc, a1.2]; grind⟩ ⟨Int.gcd r2 (R2 * H) * R1, by rw [← Int.mul_assoc, a2.2]; grind⟩
  refine ⟨?_, T0, Td⟩
  have per := per_eH (s1 := s1) (s2 := s2) h1 h2 (tu_per h1 h3 d1) (tu_per h2 h3 d2)
  generalize lc (tu R1 H r1) (tu R2 H r2) = T at *
  obtain ⟨m, hm⟩ := Td
  obtain ⟨T, rfl⟩ := Int.eq_ofNat_of_zero_le (Int.le_of_lt T0)
  have m0 : 0 < m := by
    refine Classical.byContradiction fun z => ?_
    have := Int.mul_le_mul_of_nonneg_left (show m ≤ 0 by omega) (Int.le_of_lt T0)
    omega
  obtain ⟨m, rfl⟩ := Int.eq_ofNat_of_zero_le (Int.le_of_lt m0)
  have e : (R1 * (R2 * H)).toNat = T * m := by
    rw [← Int.mul_assoc, hm, ← Int.natCast_mul]
    rfl
  unfold cnt
  rw [e, sm_times per, Int.toNat_natCast, hm, ← Int.mul_assoc, Int.mul_ediv_cancel_left _ (by rw [← hm]; omega)]
end MT
/-! near and far -/
namespace MT
open DS VL
theorem tu_norm {R H r : Int} (h : 1 < H) : tu (nR R H) H (nr R H r) = tu R H r := by
  unfold tu
  rw [nr_gcd ⟨1, (Int.mul_one _).symm⟩, show nR R H = R from if_pos h]
theorem tu_one {R r : Int} : tu (nR R 1) 1 (nr R 1 r) = 1 := by
  unfold tu
  rw [show nR R 1 = 1 from if_neg (by omega), Int.mul_one, Int.gcd_one]
  rfl
theorem lc_one : lc 1 1 = 1 := by rw [show (1 : Int) = ((1 : Nat) : Int) from rfl, lc_nat]; rfl
/-- the joint turn as the law reckons it -/
def jt (H R1 r1 R2 r2 : Int) : Int := if H = 1 then 1 else lc (tu R1 H r1) (tu R2 H r2)
theorem near_turn {H R1 r1 R2 r2 : Int} (hH : 0 < H) : lc (tu (nR R1 H) H (nr R1 H r1)) (tu (nR R2 H) H (nr R2 H r2)) = jt H R1 r1 R2 r2 := by
  unfold jt
  by_cases h : H = 1
  · subst h
    rw [if_pos rfl, tu_one, tu_one, lc_one]
  · rw [if_neg h, tu_norm (by omega), tu_norm (by omega)]
theorem near_cnt {H R1 s1 r1 R2 s2 r2 T : Int} (hH : 0 < H) (h1 : 0 < R1) (h2 : 0 < R2) : cnt (nR R1 H) (nR R2 H) H (nS R1 H s1 r1) (nS R2 H s2 r2) (nr R1 H r1) (nr R2 H r2) T = cnt R1 R2 H s1 s2 r1 r2 T :=
  cnt_congr (norm_house h1 hH) (norm_house h2 hH)
theorem tu_unit {R H u : Int} (g : Int.gcd u (R * H) = 1) : tu R H u = R * H := by
  unfold tu
  rw [g]
  exact Int.ediv_one _
theorem lc_mul {x y t : Int} (hx : 0 < x) (hy : 0 < y) (ht : 0 < t) : lc (x * t) (y * t) = lc x y * t := by
  obtain ⟨x, rfl⟩ := Int.eq_ofNat_of_zero_le (Int.le_of_lt hx)
  obtain ⟨y, rfl⟩ := Int.eq_ofNat_of_zero_le (Int.le_of_lt hy)
  obtain ⟨t, rfl⟩ := Int.eq_ofNat_of_zero_le (Int.le_of_lt ht)
  rw [← Int.natCast_mul, ← Int.natCast_mul, lc_nat, lc_nat, Nat.lcm_mul_right, Int.natCast_mul]
theorem far_cnt {R1 R2 H s1 s2 t u m : Int} {J : Nat} (h1 : 0 < R1) (h2 : 0 < R2) (h3 : 0 < H) (ht : 0 < t) (d1 : R1 * H ∣ J) (d2 : R2 * H ∣ J) (g : Int.gcd u (J * t) = 1) :
    cnt (R1 * t) (R2 * t) H (s1 * t + m) (s2 * t + m) u u (J * t) = t * cnt R1 R2 H s1 s2 1 1 J := by
  obtain ⟨t, rfl⟩ := Int.eq_ofNat_of_zero_le (Int.le_of_lt ht)
  have p1 := Int.mul_pos h1 ht
  have p2 := Int.mul_pos h2 ht
  have per := per_eH (H := H) (s1 := s1 * t) (s2 := s2 * t) (r1 := 1) (r2 := 1) (T := (t * J : Nat)) p1 p2 (by
    obtain ⟨c, hc⟩ := d1
    exact ⟨c, by rw [Int.natCast_mul, hc]; grind⟩) (by
    obtain ⟨c, hc⟩ := d2
    exact ⟨c, by rw [Int.natCast_mul, hc]; grind⟩)
  obtain ⟨a, b, hab⟩ := bezI u (J * t)
  rw [g] at hab
  unfold cnt
  rw [show (J : Int) * (t : Int) = ((t * J : Nat) : Int) by rw [Int.natCast_mul, Int.mul_comm], Int.toNat_natCast, Int.toNat_natCast]
  have e1 : ∀ k, k < t * J → eH (R1 * t) (R2 * t) H (s1 * t + m) (s2 * t + m) u u (k : Int) = eH (R1 * t) (R2 * t) H (s1 * t) (s2 * t) 1 1 (u * (k : Int) + m) := fun k _ => by
    unfold eH
    rw [show s1 * (t : Int) + m + u * k = s1 * t + 1 * (u * (k : Int) + m) by omega, show s2 * (t : Int) + m + u * k = s2 * t + 1 * (u * (k : Int) + m) by omega]
  rw [sm_congr e1, sm_perm per (u := u) (v := a) m ⟨-b, by rw [Int.natCast_mul]; grind⟩, sm_blk, ← sm_mul]
  refine sm_congr fun j _ => ?_
  rw [sm_congr (g := fun _ => eH R1 R2 H s1 s2 1 1 j), sm_const, Int.mul_comm]
  intro i hi
  have hs : ∀ s R : Int, 0 < R → (s * t + 1 * ((t * j + i : Nat) : Int)) / (R * t) = (s + 1 * (j : Int)) / R := fun s R hR => by
    rw [Int.mul_comm R, ← Int.ediv_ediv_of_nonneg (Int.le_of_lt ht)]
    congr 1
    rw [Int.natCast_add, Int.natCast_mul, show s * (t : Int) + 1 * ((t : Int) * j + i) = i + t * (s + 1 * (j : Int)) by grind, Int.add_mul_ediv_left _ _ (Int.ne_of_gt ht), Int.ediv_eq_zero_of_lt (by omega) (by omega), Int.zero_add]
  unfold eH
  rw [hs s1 R1 h1, hs s2 R2 h2]
theorem gcd_of_dvd {u x y : Int} (g : Int.gcd u y = 1) (d : x ∣ y) : Int.gcd u x = 1 := by
  have h : Int.gcd u x ∣ Int.gcd u y := Int.dvd_gcd (Int.gcd_dvd_left ..) (Int.dvd_trans (Int.gcd_dvd_right ..) d)
  rw [g] at h
  exact Nat.dvd_one.mp h
/-- from far -/
theorem far {R1 R2 H s1 s2 t u m : Int} (h1 : 0 < R1) (h2 : 0 < R2) (h3 : 1 < H) (ht : 0 < t) (g : Int.gcd u (t * R1 * R2 * H) = 1) :
    lc (tu (nR (R1 * t) H) H (nr (R1 * t) H u)) (tu (nR (R2 * t) H) H (nr (R2 * t) H u)) = jt H R1 1 R2 1 * t ∧
    cnt (nR (R1 * t) H) (nR (R2 * t) H) H (nS (R1 * t) H (s1 * t + m) u) (nS (R2 * t) H (s2 * t + m) u) (nr (R1 * t) H u) (nr (R2 * t) H u) (jt H R1 1 R2 1 * t) = t * cnt R1 R2 H s1 s2 1 1 (jt H R1 1 R2 1) := by
  have H0 : 0 < H := by omega
  have a1 : tu R1 H 1 = R1 * H := tu_unit (Int.one_gcd ..)
  have a2 : tu R2 H 1 = R2 * H := tu_unit (Int.one_gcd ..)
  have b1 : tu (R1 * t) H u = R1 * H * t := by
    rw [tu_unit (gcd_of_dvd g ⟨R2, by grind⟩)]
    grind
  have b2 : tu (R2 * t) H u = R2 * H * t := by
    rw [tu_unit (gcd_of_dvd g ⟨R1, by grind⟩)]
    grind
  have ej : jt H R1 1 R2 1 = lc (R1 * H) (R2 * H) := by
    unfold jt
    rw [if_neg (by omega), a1, a2]
  have p1 := Int.mul_pos h1 H0
  have p2 := Int.mul_pos h2 H0
  obtain ⟨l0, l1, l2, l3⟩ := lc_dvd p1 p2 (Int.mul_pos (Int.mul_pos h1 h2) H0) ⟨R2, by grind⟩ ⟨R1, by grind⟩
  rw [tu_norm h3, tu_norm h3, b1, b2, lc_mul p1 p2 ht, ej]
  refine ⟨rfl, ?_⟩
  rw [near_cnt H0 (Int.mul_pos h1 ht) (Int.mul_pos h2 ht)]
  generalize lc (R1 * H) (R2 * H) = J at *
  obtain ⟨J, rfl⟩ := Int.eq_ofNat_of_zero_le (Int.le_of_lt l0)
  refine far_cnt h1 h2 H0 ht l2 l3 (gcd_of_dvd g ?_)
  obtain ⟨c, hc⟩ := l1
  exact ⟨c, by rw [show t * R1 * R2 * H = t * (R1 * R2 * H) by grind, hc]; grind⟩
end MT
/-! bounds -/
namespace MT
open DS VL
theorem B.sm {f : Nat → Int} {k j : Nat} : ∀ {n : Nat}, (∀ i, i < n → B k (f i)) → n < 2 ^ j → B (k + j) (sm f n) := fun {n} h hn => by
  have key : ∀ m, m ≤ n → (MT.sm f m).natAbs ≤ m * 2 ^ k := fun m => by
    induction m with
    | zero => intro _; exact Nat.zero_le _
    | succ m ih =>
      intro hm
      have h1 := ih (by omega)
      have h2 : (f m).natAbs < 2 ^ k := h m (by omega)
      show (MT.sm f m + f m).natAbs ≤ _
      rw [Nat.succ_mul]
      generalize m * 2 ^ k = z at *
      omega
  have h1 := key n (Nat.le_refl _)
  have h2 : n * 2 ^ k < 2 ^ j * 2 ^ k := Nat.mul_lt_mul_of_pos_right hn (Nat.two_pow_pos k)
  show (MT.sm f n).natAbs < 2 ^ (k + j)
  rw [Nat.add_comm k j, Nat.pow_add]
  omega
theorem B.nat {k : Nat} {m : Nat} (h : B k (m : Int)) : m < 2 ^ k := by
  unfold B at h
  rw [Int.natAbs_natCast] at h
  exact h
theorem B.ofNat {k : Nat} {m : Nat} (h : m < 2 ^ k) : B k (m : Int) := by
  unfold B
  rw [Int.natAbs_natCast]
  exact h
section
variable {r a b : Int} {m : Nat} {k : Nat}
theorem B.fl (h : B k (m : Int)) (ha : B k a) (hb : B k b) (i : Nat) (hi : i < m) : B (2 * k + 1) (fl r a b i) := by
  have h1 : B k (i : Int) := B.ofNat (Nat.lt_trans hi (B.nat h))
  exact ((ha.mul h1).add hb).div.mono (by omega)
theorem B.f1 (h : B k (m : Int)) (ha : B k a) (hb : B k b) : B (3 * k + 1) (f1 r a b m) := (B.sm (fun i hi => B.fl h ha hb i hi) (B.nat h)).mono (by omega)
theorem B.f2 (h : B k (m : Int)) (ha : B k a) (hb : B k b) : B (4 * k + 1) (f2 r a b m) := (B.sm (fun i hi => (B.ofNat (Nat.lt_trans hi (B.nat h)) : B k (i : Int)).mul (B.fl h ha hb i hi)) (B.nat h)).mono (by omega)
theorem B.f3 (h : B k (m : Int)) (ha : B k a) (hb : B k b) : B (5 * k + 2) (f3 r a b m) := (B.sm (fun i hi => (B.fl h ha hb i hi).mul (B.fl h ha hb i hi)) (B.nat h)).mono (by omega)
end
theorem B.gcd {k : Nat} {a b : Int} (h : B k b) (h0 : 0 < b) : B k (Int.gcd a b : Nat) := by
  refine h.le (Int.natCast_nonneg _) ?_
  have := Nat.le_of_dvd (by omega) (Int.gcd_dvd_natAbs_right a b)
  omega
theorem gcd_pos {a b : Int} (h0 : 0 < b) : (0 : Int) < (Int.gcd a b : Nat) := by
  have := Int.gcd_pos_of_ne_zero_right a (show b ≠ 0 by omega)
  omega
theorem gcd_pos' {a b : Int} (h0 : 0 < a) : (0 : Int) < (Int.gcd a b : Nat) := by
  have := Int.gcd_pos_of_ne_zero_left b (show a ≠ 0 by omega)
  omega
theorem B.abs {k : Nat} {a : Int} (h : B k a) : B k (a.natAbs : Nat) := by
  unfold B at *
  rw [Int.natAbs_natCast]
  exact h
/-- what sums_of keeps: the steps that lead from one sum to another -/
inductive Ch (k : Nat) (m0 r0 a0 b0 : Int) : List (Int × Int × Int × Int) → Int → Int → Int → Int → Prop
  | nil (h : 0 ≤ m0) (hr : 0 < m0 → 0 < r0) (hm : B k m0) (br : B k r0) (ha : B k a0) (hb : B k b0) : Ch k m0 r0 a0 b0 [] m0 r0 a0 b0
  | snoc {l : List (Int × Int × Int × Int)} {m r a b : Int} (c : Ch k m0 r0 a0 b0 l m r a b) (hm : 0 < m) : Ch k m0 r0 a0 b0 (l ++ [(m, a / r, b / r, (a % r * (m - 1) + b % r) / r)]) ((a % r * (m - 1) + b % r) / r) (a % r) r (r - b % r - 1)
structure ChOk (k : Nat) (m r a b : Int) : Prop where
  m0 : 0 ≤ m
  r0 : 0 < m → 0 < r
  mB : B k m
  rB : B k r
  aB : B k a
  bB : B k b
theorem top_lt {m r a b : Int} (hm : 0 < m) (hr : 0 < r) : 0 ≤ (a % r * (m - 1) + b % r) / r ∧ (a % r * (m - 1) + b % r) / r < m := by
  have a0 := Int.emod_nonneg a (Int.ne_of_gt hr)
  have a1 := Int.emod_lt_of_pos a hr
  have b0 := Int.emod_nonneg b (Int.ne_of_gt hr)
  have b1 := Int.emod_lt_of_pos b hr
  have h0 : 0 ≤ a % r * (m - 1) := Int.mul_nonneg a0 (by omega)
  have h1 : a % r * (m - 1) ≤ (r - 1) * (m - 1) := Int.mul_le_mul_of_nonneg_right (by omega) (by omega)
  refine ⟨Int.ediv_nonneg (by omega) (by omega), ?_⟩
  rw [Int.ediv_lt_iff_lt_mul hr]
  have e : m * r = (r - 1) * (m - 1) + r + m - 1 := by grind
  omega
theorem Ch.ok {k : Nat} {m0 r0 a0 b0 m r a b : Int} {l : List (Int × Int × Int × Int)} (c : Ch k m0 r0 a0 b0 l m r a b) : ChOk k m r a b := by
  induction c with
  | nil h hr hm br ha hb => exact ⟨h, hr, hm, br, ha, hb⟩
  | snoc c hm ih =>
    rename_i l m r a b
    have hr := ih.r0 hm
    have t := top_lt (a := a) (b := b) hm hr
    have a0 := Int.emod_nonneg a (Int.ne_of_gt hr)
    have b0 := Int.emod_nonneg b (Int.ne_of_gt hr)
    have b1 := Int.emod_lt_of_pos b hr
    refine ⟨t.1, fun h => ?_, ih.mB.le t.1 (by omega), ih.rB.mod hr, ih.rB, ih.rB.le (by omega) (by omega)⟩
    refine Classical.byContradiction fun z => ?_
    have e : a % r = 0 := by omega
    rw [e, Int.zero_mul, Int.zero_add, Int.ediv_eq_zero_of_lt b0 b1] at h
    omega
theorem Ch.last {k : Nat} {m0 r0 a0 b0 m r a b : Int} {l : List (Int × Int × Int × Int)} {x : Int × Int × Int × Int} (c : Ch k m0 r0 a0 b0 (l ++ [x]) m r a b) : ∃ m' r' a' b', Ch k m0 r0 a0 b0 l m' r' a' b' ∧ 0 < m' ∧ x = (m', a' / r', b' / r', m) ∧ m = (a' % r' * (m' - 1) + b' % r') / r' ∧ r = a' % r' ∧ a = r' ∧ b = r' - b' % r' - 1 := by
  generalize e : l ++ [x] = L at c
  cases c with
  | nil => simp at e
  | snoc c hm =>
    obtain ⟨rfl, e2⟩ := List.append_inj' e rfl
    cases e2
    exact ⟨_, _, _, _, c, hm, rfl, rfl, rfl, rfl, rfl⟩
theorem Ch.nil_eq {k : Nat} {m0 r0 a0 b0 m r a b : Int} (c : Ch k m0 r0 a0 b0 [] m r a b) : m = m0 ∧ r = r0 ∧ a = a0 ∧ b = b0 := by
  generalize e : ([] : List (Int × Int × Int × Int)) = L at c
  cases c with
  | nil => exact ⟨rfl, rfl, rfl, rfl⟩
  | snoc c hm => simp at e
theorem Ch.half {k : Nat} {m0 r0 a0 b0 m r a b : Int} {l : List (Int × Int × Int × Int)} (c : Ch k m0 r0 a0 b0 l m r a b) : l ≠ [] → 0 ≤ r ∧ r < a ∧ ∀ d : Int, (2 : Int) ^ (l.length - 1) = d → a * r * d < 2 ^ k * 2 ^ k := by
  induction c with
  | nil h hr hm br ha hb => exact fun z => absurd rfl z
  | snoc c hm ih =>
    rename_i l m r a b
    intro _
    have ok := c.ok
    have hr := ok.r0 hm
    have r0 := Int.emod_nonneg a (Int.ne_of_gt hr)
    have r1 := Int.emod_lt_of_pos a hr
    refine ⟨r0, r1, fun d hd => ?_⟩
    have rb : r < 2 ^ k := by
      have h : r.natAbs < 2 ^ k := ok.rB
      have : ((r.natAbs : Nat) : Int) < ((2 ^ k : Nat) : Int) := by exact_mod_cast h
      rw [Int.natCast_pow] at this
      have e : ((2 : Nat) : Int) = 2 := rfl
      rw [e] at this
      omega
    cases l with
    | nil =>
      have d1 : d = 1 := by rw [← hd]; rfl
      subst d1
      rw [Int.mul_one]
      have h1 : r * (a % r) ≤ r * r := Int.mul_le_mul_of_nonneg_left (by omega) (by omega)
      have h2 : r * r < 2 ^ k * 2 ^ k := by
        have h3 : r * r ≤ r * 2 ^ k := Int.mul_le_mul_of_nonneg_left (by omega) (by omega)
        have h4 : r * 2 ^ k < 2 ^ k * 2 ^ k := Int.mul_lt_mul_of_pos_right rb (by omega)
        omega
      omega
    | cons x l =>
      obtain ⟨h0, h1, h2⟩ := ih (by simp)
      have h3 := h2 _ rfl
      have e : d = 2 * 2 ^ ((x :: l).length - 1) := by
        rw [← hd, List.length_append]
        show (2 : Int) ^ (l.length + 1 + 1 - 1) = 2 * 2 ^ (l.length + 1 - 1)
        rw [Nat.add_sub_cancel, Nat.add_sub_cancel, Int.pow_succ, Int.mul_comm]
      have z0 : (0 : Int) ≤ 2 ^ ((x :: l).length - 1) := Int.pow_nonneg (by decide)
      generalize (2 : Int) ^ ((x :: l).length - 1) = z at *
      have e2 : a % r ≤ a - r := by
        have := Int.emod_add_mul_ediv a r
        have : 1 ≤ a / r := by rw [Int.le_ediv_iff_mul_le hr]; omega
        have : r * 1 ≤ r * (a / r) := Int.mul_le_mul_of_nonneg_left this (by omega)
        omega
      have h4 : r * (2 * (a % r)) ≤ r * a := Int.mul_le_mul_of_nonneg_left (by omega) (by omega)
      have h5 : r * (2 * (a % r)) * z ≤ r * a * z := Int.mul_le_mul_of_nonneg_right h4 z0
      have e3 : r * (a % r) * d = r * (2 * (a % r)) * z := by rw [e]; grind
      have e4 : a * r * z = r * a * z := by grind
      omega
theorem Ch.len {k : Nat} {m0 r0 a0 b0 m r a b : Int} {l : List (Int × Int × Int × Int)} (c : Ch k m0 r0 a0 b0 l m r a b) (hm : 0 < m) : l.length ≤ 2 * k + 1 := by
  cases l with
  | nil => simp
  | cons x l =>
    obtain ⟨h0, h1, h2⟩ := c.half (by simp)
    have hr := c.ok.r0 hm
    have h3 := h2 _ rfl
    have h4 : 1 ≤ a * r := by
      have : a * 1 ≤ a * r := Int.mul_le_mul_of_nonneg_left (by omega) (by omega)
      omega
    have z0 : (0 : Int) ≤ 2 ^ ((x :: l).length - 1) := Int.pow_nonneg (by decide)
    have h5 : 1 * (2 : Int) ^ ((x :: l).length - 1) ≤ a * r * 2 ^ ((x :: l).length - 1) := Int.mul_le_mul_of_nonneg_right h4 z0
    rw [← Int.pow_add] at h3
    have h6 : (2 : Int) ^ ((x :: l).length - 1) < 2 ^ (k + k) := by omega
    have h7 : (2 : Nat) ^ ((x :: l).length - 1) < 2 ^ (k + k) := by
      have : (((2 : Nat) ^ ((x :: l).length - 1) : Nat) : Int) < (((2 : Nat) ^ (k + k) : Nat) : Int) := by
        rw [Int.natCast_pow, Int.natCast_pow]
        exact h6
      exact_mod_cast this
    have h8 := (Nat.pow_lt_pow_iff_right (by decide)).mp h7
    omega
/-- one level of the sums -/
theorem level {m r a b : Int} (hm : 0 < m) (hr : 0 < r) {t : Int} (ht : t = (a % r * (m - 1) + b % r) / r) {x1 x2 x3 : Int} (e1 : x1 = f1 (a % r) r (r - b % r - 1) t.toNat) (e2 : x2 = f2 (a % r) r (r - b % r - 1) t.toNat) (e3 : x3 = f3 (a % r) r (r - b % r - 1) t.toNat) :
    f1 r a b m.toNat = ((m - 1) * t - x1) + a / r * (m * (m - 1) / 2) + b / r * m ∧
    f2 r a b m.toNat = (t * (m - 1) * m - x3 - x1) / 2 + a / r * ((m - 1) * m * (2 * m - 1) / 6) + b / r * (m * (m - 1) / 2) ∧
    f3 r a b m.toNat = ((m - 1) * t * (t + 1) - 2 * x2 - 2 * x1 - ((m - 1) * t - x1)) + (a / r * (a / r) * ((m - 1) * m * (2 * m - 1) / 6) + b / r * (b / r) * m + 2 * (a / r) * (b / r) * (m * (m - 1) / 2)) + 2 * (a / r) * ((t * (m - 1) * m - x3 - x1) / 2) + 2 * (b / r) * ((m - 1) * t - x1) := by
  obtain ⟨m, rfl⟩ := Int.eq_ofNat_of_zero_le (Int.le_of_lt hm)
  have tl := top_lt (a := a) (b := b) hm hr
  rw [← ht] at tl
  obtain ⟨t, rfl⟩ := Int.eq_ofNat_of_zero_le tl.1
  rw [Int.toNat_natCast] at *
  have a0 := Int.emod_nonneg a (Int.ne_of_gt hr)
  have a1 := Int.emod_lt_of_pos a hr
  have b0 := Int.emod_nonneg b (Int.ne_of_gt hr)
  have b1 := Int.emod_lt_of_pos b hr
  have m0 : 0 < m := by omega
  have g1 := fold1 hr a0 a1 b0 b1 m0 ht
  have g2 := fold2 hr a0 a1 b0 b1 m0 ht
  have g3 := fold3 hr a0 a1 b0 b1 m0 ht
  rw [← e1] at g1 g2 g3
  rw [← e3] at g2
  rw [← e2] at g3
  have h2 : f2 r (a % r) (b % r) m = ((t : Int) * (m - 1) * m - x3 - x1) / 2 := by
    rw [← g2, Int.mul_ediv_cancel_left _ (by decide)]
  refine ⟨by rw [raise1 hr, g1], by rw [raise2 hr, h2], ?_⟩
  rw [raise3 hr, h2, g1, g3]
  grind
end MT
/-! the least number at which two lines of floors are unlike -/
namespace MT
def ln (s r R k : Int) : Int := (s + r * k) / R
/-- the least number from 0 on at which two functions are unlike -/
def FstA (f g : Int → Int) : Option Int → Prop
  | some t => 0 ≤ t ∧ f t ≠ g t ∧ ∀ s, 0 ≤ s → s < t → f s = g s
  | none => ∀ s, 0 ≤ s → f s = g s
theorem FstA.symm {f g : Int → Int} : ∀ {r : Option Int}, FstA f g r → FstA g f r
  | some _, ⟨t0, ne, h⟩ => ⟨t0, fun e => ne e.symm, fun s s0 s1 => (h s s0 s1).symm⟩
  | none, h => fun s s0 => (h s s0).symm
theorem FstA.uniq {f g : Int → Int} : ∀ {r r' : Option Int}, FstA f g r → FstA f g r' → r = r'
  | none, none, _, _ => rfl
  | none, some t, u, ⟨t0, ne, _⟩ => absurd (u t t0) ne
  | some t, none, ⟨t0, ne, _⟩, u => absurd (u t t0) ne
  | some t, some t', ⟨t0, ne, m⟩, ⟨t0', ne', m'⟩ => by
    have h1 : ¬ t < t' := fun z => ne (m' t t0 z)
    have h2 : ¬ t' < t := fun z => ne' (m t' t0' z)
    rw [show t = t' by omega]
/-- only where the functions are alike matters -/
theorem FstA.of {f g f' g' : Int → Int} (h : ∀ k, 0 ≤ k → (f k = g k ↔ f' k = g' k)) : ∀ {r : Option Int}, FstA f g r → FstA f' g' r
  | some t, ⟨t0, ne, m⟩ => ⟨t0, fun e => ne ((h t t0).mpr e), fun s s0 s1 => (h s s0).mp (m s s0 s1)⟩
  | none, u => fun s s0 => (h s s0).mp (u s s0)
/-- the least number at which a line reaches n -/
def rch (s r R n : Int) : Int := (n * R - s + r - 1) / r
theorem rch_iff {s r R n k : Int} (r0 : 0 < r) (R0 : 0 < R) : n ≤ ln s r R k ↔ rch s r R n ≤ k := by
  unfold ln rch
  rw [Int.le_ediv_iff_mul_le R0]
  have h : (n * R - s + r - 1) / r < k + 1 ↔ n * R - s + r - 1 < (k + 1) * r := Int.ediv_lt_iff_lt_mul r0
  have e : (k + 1) * r = r * k + r := by rw [Int.add_mul, Int.one_mul, Int.mul_comm]
  rw [e] at h
  constructor
  · intro a
    have := h.mpr (by omega)
    omega
  · intro a
    have := h.mp (by omega)
    omega
theorem rch_mono {s r R n m : Int} (r0 : 0 < r) (R0 : 0 < R) (h : n ≤ m) : rch s r R n ≤ rch s r R m := by
  have a : m ≤ ln s r R (rch s r R m) := (rch_iff r0 R0).mpr (Int.le_refl _)
  exact (rch_iff r0 R0).mp (by omega)
theorem exch (s r R n : Int) : ln (R - s + r - 1) R r n = rch s r R (n + 1) := by
  unfold ln rch
  rw [show R - s + r - 1 + R * n = (n + 1) * R - s + r - 1 by rw [Int.add_mul, Int.one_mul, Int.mul_comm R n]; omega]
theorem ln_zero {s r R : Int} (s0 : 0 ≤ s) (sR : s < R) : ln s r R 0 = 0 := by
  unfold ln
  rw [Int.mul_zero, Int.add_zero]
  exact Int.ediv_eq_zero_of_lt s0 sR
theorem ln_nn {s r R k : Int} (s0 : 0 ≤ s) (r0 : 0 ≤ r) (R0 : 0 < R) (k0 : 0 ≤ k) : 0 ≤ ln s r R k := by
  have := Int.mul_nonneg r0 k0
  exact Int.ediv_nonneg (by omega) (by omega)
/-- from the lines exchanged to the lines -/
theorem lt_part {s1 r1 R1 s2 r2 R2 k : Int} (a0 : 0 ≤ s1) (a1 : 0 < r1) (a2 : 0 < R1) (b1 : 0 < r2) (b2 : 0 < R2) (k0 : 0 ≤ k) (h : ln s1 r1 R1 k < ln s2 r2 R2 k) :
    0 ≤ ln s1 r1 R1 k ∧ rch s2 r2 R2 (ln s1 r1 R1 k + 1) ≤ k ∧ k < rch s1 r1 R1 (ln s1 r1 R1 k + 1) := by
  refine ⟨ln_nn a0 (Int.le_of_lt a1) a2 k0, (rch_iff b1 b2).mp (by omega), ?_⟩
  have := rch_iff (s := s1) (n := ln s1 r1 R1 k + 1) (k := k) a1 a2
  omega
section
variable {s1 r1 R1 s2 r2 R2 : Int}
theorem ex_none (a0 : 0 ≤ s1) (a1 : 0 < r1) (a2 : 0 < R1) (b0 : 0 ≤ s2) (b1 : 0 < r2) (b2 : 0 < R2) (h : ∀ n, 0 ≤ n → rch s1 r1 R1 (n + 1) = rch s2 r2 R2 (n + 1)) {k : Int} (k0 : 0 ≤ k) : ln s1 r1 R1 k = ln s2 r2 R2 k := by
  have h1 : ¬ ln s1 r1 R1 k < ln s2 r2 R2 k := fun z => by
    obtain ⟨c0, c1, c2⟩ := lt_part a0 a1 a2 b1 b2 k0 z
    have := h _ c0
    omega
  have h2 : ¬ ln s2 r2 R2 k < ln s1 r1 R1 k := fun z => by
    obtain ⟨c0, c1, c2⟩ := lt_part b0 b1 b2 a1 a2 k0 z
    have := h _ c0
    omega
  omega
theorem ex_some (a0 : 0 ≤ s1) (aR : s1 < R1) (a1 : 0 < r1) (b0 : 0 ≤ s2) (bR : s2 < R2) (b1 : 0 < r2) {n : Int} (n0 : 0 ≤ n) (ne : rch s1 r1 R1 (n + 1) ≠ rch s2 r2 R2 (n + 1)) (h : ∀ v, 0 ≤ v → v < n → rch s1 r1 R1 (v + 1) = rch s2 r2 R2 (v + 1)) :
    FstA (ln s1 r1 R1) (ln s2 r2 R2) (some (min (rch s1 r1 R1 (n + 1)) (rch s2 r2 R2 (n + 1)))) := by
  have a2 : 0 < R1 := by omega
  have b2 : 0 < R2 := by omega
  have z1 := rch_iff (s := s1) (n := n + 1) (k := 0) a1 a2
  have z2 := rch_iff (s := s2) (n := n + 1) (k := 0) b1 b2
  rw [ln_zero a0 aR] at z1
  rw [ln_zero b0 bR] at z2
  refine ⟨by omega, fun e => ?_, fun k k0 k1 => ?_⟩
  · generalize hm : min (rch s1 r1 R1 (n + 1)) (rch s2 r2 R2 (n + 1)) = m at e
    have c1 := rch_iff (s := s1) (n := n + 1) (k := m) a1 a2
    have c2 := rch_iff (s := s2) (n := n + 1) (k := m) b1 b2
    omega
  · have far : ∀ v, 0 ≤ v → rch s1 r1 R1 (v + 1) ≠ rch s2 r2 R2 (v + 1) → rch s1 r1 R1 (n + 1) ≤ rch s1 r1 R1 (v + 1) ∧ rch s2 r2 R2 (n + 1) ≤ rch s2 r2 R2 (v + 1) := fun v v0 nv => by
      have : ¬ v < n := fun z => nv (h v v0 z)
      exact ⟨rch_mono a1 a2 (by omega), rch_mono b1 b2 (by omega)⟩
    have h1 : ¬ ln s1 r1 R1 k < ln s2 r2 R2 k := fun z => by
      obtain ⟨c0, c1, c2⟩ := lt_part a0 a1 a2 b1 b2 k0 z
      have := far _ c0 (by omega)
      omega
    have h2 : ¬ ln s2 r2 R2 k < ln s1 r1 R1 k := fun z => by
      obtain ⟨c0, c1, c2⟩ := lt_part b0 b1 b2 a1 a2 k0 z
      have := far _ c0 (by omega)
      omega
    omega
/-- one level down: what the exchanged lines tell -/
theorem ex_step (a0 : 0 ≤ s1) (aR : s1 < R1) (a1 : 0 < r1) (b0 : 0 ≤ s2) (bR : s2 < R2) (b1 : 0 < r2) : ∀ {y : Option Int}, FstA (ln (R1 - s1 + r1 - 1) R1 r1) (ln (R2 - s2 + r2 - 1) R2 r2) y → FstA (ln s1 r1 R1) (ln s2 r2 R2) (y.map fun n => min (rch s1 r1 R1 (n + 1)) (rch s2 r2 R2 (n + 1)))
  | none, h => fun k k0 => ex_none a0 a1 (by omega) b0 b1 (by omega) (fun n n0 => by rw [← exch, ← exch]; exact h n n0) k0
  | some n, ⟨n0, ne, h⟩ => ex_some a0 aR a1 b0 bR b1 n0 (by rw [← exch, ← exch]; exact ne) fun v v0 v1 => by rw [← exch, ← exch]; exact h v v0 v1
end
/-- a line by its whole parts and its rests -/
theorem ln_split {s r R : Int} (R0 : 0 < R) (k : Int) : ln s r R k = s / R + r / R * k + ln (s % R) (r % R) R k := by
  unfold ln
  have e1 := Int.emod_add_mul_ediv s R
  have e2 := Int.emod_add_mul_ediv r R
  have e : s + r * k = s % R + r % R * k + R * (s / R + r / R * k) := by
    rw [Int.mul_add, ← Int.mul_assoc]
    have : (r % R + R * (r / R)) * k = r * k := by rw [e2]
    rw [Int.add_mul] at this
    omega
  rw [e, Int.add_mul_ediv_left _ _ (Int.ne_of_gt R0)]
  omega
theorem ln_next {s r R k : Int} (R0 : 0 < R) (r0 : 0 ≤ r) (rR : r < R) : ln s r R k ≤ ln s r R (k + 1) ∧ ln s r R (k + 1) ≤ ln s r R k + 1 := by
  unfold ln
  rw [Int.mul_add, Int.mul_one, ← Int.add_assoc]
  generalize s + r * k = x
  have e1 := Int.emod_add_mul_ediv x R
  have e2 := Int.emod_add_mul_ediv (x + r) R
  have m1 := Int.emod_nonneg x (Int.ne_of_gt R0)
  have m2 := Int.emod_lt_of_pos x R0
  have m3 := Int.emod_nonneg (x + r) (Int.ne_of_gt R0)
  have m4 := Int.emod_lt_of_pos (x + r) R0
  constructor
  · exact Int.ediv_le_ediv R0 (by omega)
  · have : (x + r) / R ≤ (x + R * 1) / R := Int.ediv_le_ediv R0 (by omega)
    rw [Int.add_mul_ediv_left _ _ (Int.ne_of_gt R0)] at this
    exact this
/-- a line without rests is at most k at k -/
theorem ln_le {s r R : Int} (s0 : 0 ≤ s) (sR : s < R) (r0 : 0 ≤ r) (rR : r < R) : ∀ k : Nat, ln s r R k ≤ k
  | 0 => by
    have := ln_zero (r := r) s0 sR
    show ln s r R 0 ≤ 0
    omega
  | k + 1 => by
    have h := ln_le s0 sR r0 rR k
    have := (ln_next (s := s) (k := (k : Int)) (show 0 < R by omega) r0 rR).2
    show ln s r R ((k : Int) + 1) ≤ (k : Int) + 1
    omega
/-- the least number at which a line has stepped up -/
def stepF (s r R : Int) : Option Int := if r = 0 then none else some (rch s r R 1)
/-- the least number at which a line has once not stepped up -/
def missF (s r R : Int) : Int := s / (R - r) + 1
theorem miss_iff {s r R k : Int} (s0 : 0 ≤ s) (sR : s < R) (r0 : 0 ≤ r) (rR : r < R) (k0 : 0 ≤ k) : ln s r R k < k ↔ missF s r R ≤ k := by
  unfold ln missF
  have d : 0 < R - r := by omega
  rw [Int.ediv_lt_iff_lt_mul (show 0 < R by omega)]
  have h : s / (R - r) < k ↔ s < k * (R - r) := Int.ediv_lt_iff_lt_mul d
  rw [Int.mul_sub, Int.mul_comm k r] at h
  omega
/-- of a line and of one that climbs a whole step more -/
theorem skip_first {s1 r1 R1 s2 r2 R2 : Int} (a0 : 0 ≤ s1) (aR : s1 < R1) (c0 : 0 ≤ r1) (cR : r1 < R1) (b0 : 0 ≤ s2) (bR : s2 < R2) (d0 : 0 ≤ r2) (dR : r2 < R2) :
    FstA (fun k => k + ln s1 r1 R1 k) (ln s2 r2 R2) (some (match stepF s1 r1 R1 with | none => missF s2 r2 R2 | some x => min (missF s2 r2 R2) x)) := by
  have nn := fun (k : Int) (k0 : 0 ≤ k) => ln_nn (R := R1) (k := k) a0 c0 (by omega) k0
  have le := fun (k : Int) (k0 : 0 ≤ k) => ln_le b0 bR d0 dR k.toNat
  have m := fun (k : Int) (k0 : 0 ≤ k) => miss_iff (k := k) b0 bR d0 dR k0
  have m1 : 0 < missF s2 r2 R2 := by
    unfold missF
    have := Int.ediv_nonneg b0 (show 0 ≤ R2 - r2 by omega)
    omega
  unfold stepF
  by_cases z : r1 = 0
  · rw [if_pos z]
    have flat : ∀ k, ln s1 r1 R1 k = 0 := fun k => by
      unfold ln
      rw [z, Int.zero_mul, Int.add_zero]
      exact Int.ediv_eq_zero_of_lt a0 aR
    refine ⟨by dsimp only; omega, fun e => ?_, fun k k0 k1 => ?_⟩
    · have e : missF s2 r2 R2 + ln s1 r1 R1 (missF s2 r2 R2) = ln s2 r2 R2 (missF s2 r2 R2) := e
      rw [flat] at e
      have := (m _ (Int.le_of_lt m1)).mpr (Int.le_refl _)
      omega
    · dsimp only at k1
      show k + ln s1 r1 R1 k = ln s2 r2 R2 k
      rw [flat]
      have h1 := m k k0
      have h2 := le k k0
      rw [Int.toNat_of_nonneg k0] at h2
      omega
  · rw [if_neg z]
    have r1p : 0 < r1 := by omega
    have st := fun (k : Int) => rch_iff (s := s1) (n := 1) (k := k) r1p (show 0 < R1 by omega)
    have s0 := st 0
    rw [ln_zero a0 aR] at s0
    refine ⟨by dsimp only; omega, fun e => ?_, fun k k0 k1 => ?_⟩
    · dsimp only at e
      generalize hx : min (missF s2 r2 R2) (rch s1 r1 R1 1) = x at e
      have x0 : 0 ≤ x := by omega
      have h1 := m x x0
      have h2 := le x x0
      rw [Int.toNat_of_nonneg x0] at h2
      have h3 := st x
      have h4 := nn x x0
      omega
    · dsimp only at k1
      show k + ln s1 r1 R1 k = ln s2 r2 R2 k
      have h1 := m k k0
      have h2 := le k k0
      rw [Int.toNat_of_nonneg k0] at h2
      have h3 := st k
      have h4 := nn k k0
      omega
/-- two lines with rests, their rises differ by a gap besides -/
def partF' (s1 r1 R1 s2 r2 R2 gap : Int) : Option Int :=
  if 1 < gap ∨ gap < -1 then some 1 else
  if gap = 1 then some (match stepF s1 r1 R1 with | none => missF s2 r2 R2 | some x => min (missF s2 r2 R2) x) else
  if gap = -1 then some (match stepF s2 r2 R2 with | none => missF s1 r1 R1 | some x => min (missF s1 r1 R1) x) else
  if r2 = 0 then stepF s1 r1 R1 else stepF s2 r2 R2
theorem step_first {s r R : Int} (s0 : 0 ≤ s) (sR : s < R) (r0 : 0 ≤ r) : FstA (ln s r R) (fun _ => 0) (stepF s r R) := by
  unfold stepF
  by_cases z : r = 0
  · rw [if_pos z]
    intro k k0
    show ln s r R k = 0
    unfold ln
    rw [z, Int.zero_mul, Int.add_zero]
    exact Int.ediv_eq_zero_of_lt s0 sR
  · rw [if_neg z]
    have st := fun (k : Int) => rch_iff (s := s) (n := 1) (k := k) (show 0 < r by omega) (show 0 < R by omega)
    have z0 := st 0
    rw [ln_zero s0 sR] at z0
    refine ⟨by omega, fun e => ?_, fun k k0 k1 => ?_⟩
    · have := (st (rch s r R 1)).mpr (Int.le_refl _)
      dsimp only at e
      omega
    · have h1 := st k
      have h2 := ln_nn (R := R) (k := k) s0 r0 (by omega) k0
      dsimp only
      omega
theorem part_first {s1 r1 R1 s2 r2 R2 gap : Int} (a0 : 0 ≤ s1) (aR : s1 < R1) (c0 : 0 ≤ r1) (cR : r1 < R1) (b0 : 0 ≤ s2) (bR : s2 < R2) (d0 : 0 ≤ r2) (dR : r2 < R2) (h : gap ≠ 0 ∨ r1 = 0 ∨ r2 = 0) :
    FstA (fun k => gap * k + ln s1 r1 R1 k) (ln s2 r2 R2) (partF' s1 r1 R1 s2 r2 R2 gap) := by
  unfold partF'
  have z1 := ln_zero (r := r1) a0 aR
  have z2 := ln_zero (r := r2) b0 bR
  have flat : ∀ {s r R : Int}, 0 ≤ s → s < R → r = 0 → ∀ k, ln s r R k = 0 := fun s0 sR z k => by
    unfold ln
    rw [z, Int.zero_mul, Int.add_zero]
    exact Int.ediv_eq_zero_of_lt s0 sR
  by_cases g2 : 1 < gap ∨ gap < -1
  · rw [if_pos g2]
    refine ⟨by decide, fun e => ?_, fun k k0 k1 => ?_⟩
    · have e : gap * 1 + ln s1 r1 R1 1 = ln s2 r2 R2 1 := e
      have n1 := ln_next (s := s1) (k := 0) (show 0 < R1 by omega) c0 cR
      have n2 := ln_next (s := s2) (k := 0) (show 0 < R2 by omega) d0 dR
      rw [show (0 : Int) + 1 = 1 from rfl] at n1 n2
      omega
    · obtain rfl : k = 0 := by omega
      show gap * 0 + ln s1 r1 R1 0 = ln s2 r2 R2 0
      omega
  · rw [if_neg g2]
    by_cases g1 : gap = 1
    · rw [if_pos g1]
      exact (skip_first a0 aR c0 cR b0 bR d0 dR).of fun k k0 => by rw [g1, Int.one_mul]
    · rw [if_neg g1]
      by_cases g3 : gap = -1
      · rw [if_pos g3]
        refine (skip_first b0 bR d0 dR a0 aR c0 cR).of fun k k0 => ?_
        show k + ln s2 r2 R2 k = ln s1 r1 R1 k ↔ gap * k + ln s1 r1 R1 k = ln s2 r2 R2 k
        rw [g3, Int.neg_mul, Int.one_mul]
        omega
      · rw [if_neg g3]
        have g0 : gap = 0 := by omega
        subst g0
        by_cases q : r2 = 0
        · rw [if_pos q]
          refine (step_first a0 aR c0).of fun k k0 => ?_
          show ln s1 r1 R1 k = 0 ↔ 0 * k + ln s1 r1 R1 k = ln s2 r2 R2 k
          rw [flat b0 bR q k]
          omega
        · rw [if_neg q]
          have q1 : r1 = 0 := by omega
          refine (step_first b0 bR d0).of fun k k0 => ?_
          show ln s2 r2 R2 k = 0 ↔ 0 * k + ln s1 r1 R1 k = ln s2 r2 R2 k
          rw [flat a0 aR q1 k]
          omega
/-- the same of two lines whose starts have equal whole parts -/
theorem whole_first {s1 r1 R1 s2 r2 R2 : Int} (a2 : 0 < R1) (b2 : 0 < R2) (e : s1 / R1 = s2 / R2) {y : Option Int} (h : FstA (fun k => (r1 / R1 - r2 / R2) * k + ln (s1 % R1) (r1 % R1) R1 k) (ln (s2 % R2) (r2 % R2) R2) y) : FstA (ln s1 r1 R1) (ln s2 r2 R2) y :=
  h.of fun k k0 => by
    have x1 := ln_split (s := s1) (r := r1) a2 k
    have x2 := ln_split (s := s2) (r := r2) b2 k
    show (r1 / R1 - r2 / R2) * k + ln (s1 % R1) (r1 % R1) R1 k = ln (s2 % R2) (r2 % R2) R2 k ↔ _
    rw [x1, x2, e, Int.sub_mul]
    omega
theorem start_first {s1 r1 R1 s2 r2 R2 : Int} (e : s1 / R1 ≠ s2 / R2) : FstA (ln s1 r1 R1) (ln s2 r2 R2) (some 0) :=
  ⟨Int.le_refl 0, fun h => e (by unfold ln at h; rw [Int.mul_zero, Int.add_zero, Int.mul_zero, Int.add_zero] at h; exact h), fun k k0 k1 => absurd k1 (by omega)⟩
/-- lines without whole parts and without common factors are told by what they are at all numbers -/
theorem ln_uniq {s1 r1 R1 s2 r2 R2 : Int} (a0 : 0 ≤ s1) (aR : s1 < R1) (c0 : 0 ≤ r1) (g1 : Int.gcd r1 R1 = 1) (b0 : 0 ≤ s2) (bR : s2 < R2) (d0 : 0 ≤ r2) (g2 : Int.gcd r2 R2 = 1) (h : ∀ k, 0 ≤ k → ln s1 r1 R1 k = ln s2 r2 R2 k) : s1 = s2 ∧ r1 = r2 ∧ R1 = R2 := by
  have a2 : 0 < R1 := by omega
  have b2 : 0 < R2 := by omega
  have slope : r1 * R2 = r2 * R1 := by
    have e := h (R1 * R2) (Int.le_of_lt (Int.mul_pos a2 b2))
    unfold ln at e
    rw [show s1 + r1 * (R1 * R2) = s1 + R1 * (r1 * R2) by grind, show s2 + r2 * (R1 * R2) = s2 + R2 * (r2 * R1) by grind, Int.add_mul_ediv_left _ _ (Int.ne_of_gt a2), Int.add_mul_ediv_left _ _ (Int.ne_of_gt b2), Int.ediv_eq_zero_of_lt a0 aR, Int.ediv_eq_zero_of_lt b0 bR] at e
    omega
  have cop : ∀ {r R x : Int}, Int.gcd r R = 1 → R ∣ r * x → R ∣ x := fun {r R x} g d => by
    obtain ⟨a, b, e⟩ := bezI r R
    rw [g] at e
    have e2 : x = a * (r * x) + R * (b * x) := by
      have : (a * r + b * R) * x = x := by rw [e]; exact Int.one_mul x
      grind
    rw [e2]
    exact Int.dvd_add (Int.dvd_trans d (Int.dvd_mul_left _ _)) (Int.dvd_mul_right _ _)
  have d1 : R1 ∣ R2 := cop g1 ⟨r2, by rw [slope, Int.mul_comm]⟩
  have d2 : R2 ∣ R1 := cop g2 ⟨r1, by rw [← slope, Int.mul_comm]⟩
  have eR : R1 = R2 := by
    have l1 := Int.le_of_dvd b2 d1
    have l2 := Int.le_of_dvd a2 d2
    omega
  subst eR
  have er : r1 = r2 := Int.eq_of_mul_eq_mul_right (Int.ne_of_gt a2) slope
  subst er
  refine ⟨?_, rfl, rfl⟩
  obtain ⟨x, z, bz⟩ := bezI r1 R1
  rw [g1] at bz
  have apart : ∀ {s t : Int}, 0 ≤ s → s < t → t < R1 → ∃ k, 0 ≤ k ∧ ln s r1 R1 k ≠ ln t r1 R1 k := fun {s t} s0 st tR => by
    refine ⟨x * (R1 - 1 - s) % R1, Int.emod_nonneg _ (Int.ne_of_gt a2), fun e => ?_⟩
    have m := Int.emod_add_mul_ediv (x * (R1 - 1 - s)) R1
    generalize x * (R1 - 1 - s) % R1 = k at *
    generalize x * (R1 - 1 - s) / R1 = q at *
    have key : s + r1 * k = (R1 - 1) + R1 * (-(z * (R1 - 1 - s)) - r1 * q) := by
      have bz : x * r1 + z * R1 = 1 := bz
      have k' : k = x * (R1 - 1 - s) - R1 * q := by omega
      rw [k']
      have : (x * r1 + z * R1) * (R1 - 1 - s) = R1 - 1 - s := by rw [bz, Int.one_mul]
      grind
    unfold ln at e
    rw [show t + r1 * k = (t - s - 1) + R1 * (-(z * (R1 - 1 - s)) - r1 * q + 1) by rw [Int.mul_add]; omega, key, Int.add_mul_ediv_left _ _ (Int.ne_of_gt a2), Int.add_mul_ediv_left _ _ (Int.ne_of_gt a2), Int.ediv_eq_zero_of_lt (by omega) (by omega), Int.ediv_eq_zero_of_lt (by omega) (by omega)] at e
    omega
  have h1 : ¬ s1 < s2 := fun l => by
    obtain ⟨k, k0, ne⟩ := apart a0 l bR
    exact ne (h k k0)
  have h2 : ¬ s2 < s1 := fun l => by
    obtain ⟨k, k0, ne⟩ := apart b0 l aR
    exact ne (h k k0).symm
  omega
end MT
/-! the least number at which two courses are in unlike houses -/
namespace MT
abbrev L3 : Type := Int × Int × Int
def lnL (l : L3) (k : Int) : Int := ln l.1 l.2.1 l.2.2 k
def resL (l : L3) : L3 := (l.1 % l.2.2, l.2.1 % l.2.2, l.2.2)
def excL (l : L3) : L3 := (l.2.2 - l.1 + l.2.1 - 1, l.2.2, l.2.1)
def rchL (l : L3) (n : Int) : Int := rch l.1 l.2.1 l.2.2 n
structure OkL3 (l : L3) : Prop where
  s0 : 0 ≤ l.1
  r0 : 0 ≤ l.2.1
  R0 : 0 < l.2.2
theorem OkL3.res {l : L3} (h : OkL3 l) : 0 ≤ (resL l).1 ∧ (resL l).1 < l.2.2 ∧ 0 ≤ (resL l).2.1 ∧ (resL l).2.1 < l.2.2 :=
  ⟨Int.emod_nonneg _ (Int.ne_of_gt h.R0), Int.emod_lt_of_pos _ h.R0, Int.emod_nonneg _ (Int.ne_of_gt h.R0), Int.emod_lt_of_pos _ h.R0⟩
/-- the lines on the way down, with their levels -/
inductive Cl (a b : L3) : List (L3 × L3) → L3 → L3 → Prop
  | nil : Cl a b [] a b
  | snoc {S : List (L3 × L3)} {x y : L3} (c : Cl a b S x y) (e1 : x.1 / x.2.2 = y.1 / y.2.2) (e2 : x.2.1 / x.2.2 = y.2.1 / y.2.2) (p1 : 0 < (resL x).2.1) (p2 : 0 < (resL y).2.1) : Cl a b (S ++ [(resL x, resL y)]) (excL (resL x)) (excL (resL y))
/-- how a line's values stay bounded -/
structure Low (R : Int) (n : Nat) (l : L3) : Prop where
  ok : OkL3 l
  rR : l.2.1 ≤ R
  RR : l.2.2 ≤ R
  sR : l.1 ≤ 2 * R
  b1 : l.2.2 * 2 ^ (n / 2) ≤ R
  b2 : (resL l).2.1 * 2 ^ ((n + 1) / 2) ≤ R
theorem Low.start {s r R : Int} (s0 : 0 ≤ s) (sR : s < R) (r0 : 0 ≤ r) (rR : r < R) : Low R 0 (s, r, R) := by
  refine ⟨⟨s0, r0, by show 0 < R; omega⟩, Int.le_of_lt rR, Int.le_refl _, by show s ≤ 2 * R; omega, ?_, ?_⟩
  · show R * 2 ^ 0 ≤ R
    rw [Int.pow_zero, Int.mul_one]; exact Int.le_refl _
  · show r % R * 2 ^ 0 ≤ R
    rw [Int.pow_zero, Int.mul_one, Int.emod_eq_of_lt r0 rR]; exact Int.le_of_lt rR
theorem Low.step {R : Int} {n : Nat} {l : L3} (h : Low R n l) (p : 0 < (resL l).2.1) : Low R (n + 1) (excL (resL l)) := by
  obtain ⟨m1, m2, m3, m4⟩ := h.ok.res
  have RR := h.RR
  have R0 := h.ok.R0
  refine ⟨⟨?_, Int.le_of_lt R0, p⟩, RR, by show (resL l).2.1 ≤ R; omega, ?_, h.b2, ?_⟩
  · show 0 ≤ l.2.2 - (resL l).1 + (resL l).2.1 - 1
    omega
  · show l.2.2 - (resL l).1 + (resL l).2.1 - 1 ≤ 2 * R
    omega
  · show l.2.2 % (resL l).2.1 * 2 ^ ((n + 1 + 1) / 2) ≤ R
    have b1 := h.b1
    generalize (resL l).2.1 = a at *
    have e := Int.emod_add_mul_ediv l.2.2 a
    have d : 1 ≤ l.2.2 / a := (Int.le_ediv_iff_mul_le p).mpr (by omega)
    have : a * 1 ≤ a * (l.2.2 / a) := Int.mul_le_mul_of_nonneg_left d (Int.le_of_lt p)
    have q1 := Int.emod_lt_of_pos l.2.2 p
    have half : l.2.2 % a * 2 ≤ l.2.2 := by omega
    have t0 : (0 : Int) ≤ 2 ^ (n / 2) := Int.le_of_lt (Int.pow_pos (by decide))
    have : l.2.2 % a * 2 * 2 ^ (n / 2) ≤ l.2.2 * 2 ^ (n / 2) := Int.mul_le_mul_of_nonneg_right half t0
    rw [show (n + 1 + 1) / 2 = n / 2 + 1 by omega, Int.pow_succ, Int.mul_comm (2 ^ (n / 2)) 2, ← Int.mul_assoc]
    omega
theorem Low.len {R : Int} {n : Nat} {l : L3} (h : Low R n l) (b : DS.B 900 R) : n ≤ 2000 := by
  have b1 := h.b1
  refine Nat.le_of_not_lt fun z => ?_
  have r := h.ok.R0
  have t0 : (0 : Int) < 2 ^ (n / 2) := Int.pow_pos (by decide)
  have g : (2 : Int) ^ (n / 2) ≤ R := by
    have : 1 * 2 ^ (n / 2) ≤ l.2.2 * 2 ^ (n / 2) := Int.mul_le_mul_of_nonneg_right (by omega) (Int.le_of_lt t0)
    omega
  have b : R.natAbs < 2 ^ 900 := b
  have k : (2 : Nat) ^ 900 ≤ 2 ^ (n / 2) := Nat.pow_le_pow_right (by decide) (by omega)
  have c2 : ((2 ^ (n / 2) : Nat) : Int) = (2 : Int) ^ (n / 2) := by rw [Int.natCast_pow]; rfl
  clear b1 h
  generalize (2 : Nat) ^ 900 = X at *
  generalize (2 : Nat) ^ (n / 2) = Y at *
  generalize (2 : Int) ^ (n / 2) = Z at *
  omega
theorem Cl.low {a b : L3} (ha : Low a.2.2 0 a) (hb : Low b.2.2 0 b) {S : List (L3 × L3)} {x y : L3} (c : Cl a b S x y) : Low a.2.2 S.length x ∧ Low b.2.2 S.length y := by
  induction c with
  | nil => exact ⟨ha, hb⟩
  | snoc c e1 e2 p1 p2 ih =>
    rw [List.length_append]
    exact ⟨ih.1.step p1, ih.2.step p2⟩
theorem Cl.last {a b : L3} {S : List (L3 × L3)} {z : L3 × L3} {x y : L3} (c : Cl a b (S ++ [z]) x y) : ∃ u v, z = (resL u, resL v) ∧ Cl a b S u v ∧ u.1 / u.2.2 = v.1 / v.2.2 ∧ u.2.1 / u.2.2 = v.2.1 / v.2.2 ∧ 0 < (resL u).2.1 ∧ 0 < (resL v).2.1 ∧ x = excL (resL u) ∧ y = excL (resL v) := by
  generalize hT : S ++ [z] = T at c
  cases c with
  | nil => exact absurd hT (by simp)
  | snoc c e1 e2 p1 p2 =>
    obtain ⟨h1, h2⟩ := List.append_inj' hT rfl
    cases h2
    subst h1
    exact ⟨_, _, rfl, c, e1, e2, p1, p2, rfl, rfl⟩
theorem Cl.nil_eq {a b x y : L3} (c : Cl a b [] x y) : x = a ∧ y = b := by
  generalize hT : ([] : List (L3 × L3)) = T at c
  cases c with
  | nil => exact ⟨rfl, rfl⟩
  | snoc c e1 e2 p1 p2 => exact absurd hT (by simp)
/-- one level up -/
theorem cl_step {u v : L3} (hu : OkL3 u) (hv : OkL3 v) (e1 : u.1 / u.2.2 = v.1 / v.2.2) (e2 : u.2.1 / u.2.2 = v.2.1 / v.2.2) (p1 : 0 < (resL u).2.1) (p2 : 0 < (resL v).2.1) {r : Option Int} (h : FstA (lnL (excL (resL u))) (lnL (excL (resL v))) r) : FstA (lnL u) (lnL v) (r.map fun n => min (rchL (resL u) (n + 1)) (rchL (resL v) (n + 1))) := by
  obtain ⟨a1, a2, a3, a4⟩ := hu.res
  obtain ⟨b1, b2, b3, b4⟩ := hv.res
  have s := ex_step (s1 := (resL u).1) (r1 := (resL u).2.1) (R1 := u.2.2) (s2 := (resL v).1) (r2 := (resL v).2.1) (R2 := v.2.2) a1 a2 p1 b1 b2 p2 h
  refine whole_first (s1 := u.1) (r1 := u.2.1) (R1 := u.2.2) (s2 := v.1) (r2 := v.2.1) (R2 := v.2.2) hu.R0 hv.R0 e1 (s.of fun k k0 => ?_)
  rw [e2, Int.sub_self, Int.zero_mul, Int.zero_add]
  exact Iff.rfl
theorem Cl.none {a b : L3} (ha : Low a.2.2 0 a) (hb : Low b.2.2 0 b) {S : List (L3 × L3)} {x y : L3} (c : Cl a b S x y) : FstA (lnL x) (lnL y) none → FstA (lnL a) (lnL b) none := by
  induction c with
  | nil => exact fun h => h
  | snoc c e1 e2 p1 p2 ih =>
    intro h
    have l := c.low ha hb
    exact ih (cl_step l.1.ok l.2.ok e1 e2 p1 p2 (r := Option.none) h)
/-- where lines with equal whole starts part -/
theorem cl_part {x y : L3} (hx : OkL3 x) (hy : OkL3 y) (e1 : x.1 / x.2.2 = y.1 / y.2.2) (h : x.2.1 / x.2.2 - y.2.1 / y.2.2 ≠ 0 ∨ (resL x).2.1 = 0 ∨ (resL y).2.1 = 0) : FstA (lnL x) (lnL y) (partF' (resL x).1 (resL x).2.1 x.2.2 (resL y).1 (resL y).2.1 y.2.2 (x.2.1 / x.2.2 - y.2.1 / y.2.2)) := by
  obtain ⟨a1, a2, a3, a4⟩ := hx.res
  obtain ⟨b1, b2, b3, b4⟩ := hy.res
  exact whole_first hx.R0 hy.R0 e1 (part_first a1 a2 a3 a4 b1 b2 b3 b4 h)
/-! courses -/
/-- a course in its form -/
structure NF (H R s r : Int) : Prop where
  h0 : 0 < H
  R0 : 0 < R
  s0 : 0 ≤ s
  sM : s < R * H
  r0 : 0 ≤ r
  rM : r < R * H
  g : Int.gcd r R = 1
  two : H = 2 → r ≤ R
  one : H = 1 → R = 1
def hsC (H R s r k : Int) : Int := (s + r * k) / R % H
theorem not_dvd {H d : Int} (h1 : -H < d) (h2 : d < H) (n : d ≠ 0) : ¬ H ∣ d := fun c => by
  rcases Int.lt_or_lt_of_ne n with l | l
  · have := Int.le_of_dvd (show 0 < -d by omega) ((Int.dvd_neg).mpr c)
    omega
  · have := Int.le_of_dvd l c
    omega
theorem mod_same {a b H : Int} : a % H = b % H ↔ H ∣ a - b := by
  rw [Int.emod_eq_emod_iff_emod_sub_eq_zero]
  exact ⟨Int.dvd_of_emod_eq_zero, Int.emod_eq_zero_of_dvd⟩
section
variable {H R1 s1 r1 R2 s2 r2 : Int}
theorem NF.whole {R s r : Int} (n : NF H R s r) : 0 ≤ s / R ∧ s / R < H ∧ 0 ≤ r / R ∧ r / R < H :=
  ⟨Int.ediv_nonneg n.s0 (Int.le_of_lt n.R0), Int.ediv_lt_of_lt_mul n.R0 (by rw [Int.mul_comm]; exact n.sM), Int.ediv_nonneg n.r0 (Int.le_of_lt n.R0), Int.ediv_lt_of_lt_mul n.R0 (by rw [Int.mul_comm]; exact n.rM)⟩
theorem hsC_zero {R s r : Int} (n : NF H R s r) : hsC H R s r 0 = s / R := by
  unfold hsC
  rw [Int.mul_zero, Int.add_zero]
  exact Int.emod_eq_of_lt n.whole.1 n.whole.2.1
/-- alike just if the houses between them are whole turns -/
theorem hsC_iff (a : NF H R1 s1 r1) (b : NF H R2 s2 r2) (e : s1 / R1 = s2 / R2) (k : Int) : hsC H R1 s1 r1 k = hsC H R2 s2 r2 k ↔ H ∣ (r1 / R1 - r2 / R2) * k + ln (s1 % R1) (r1 % R1) R1 k - ln (s2 % R2) (r2 % R2) R2 k := by
  have x1 := ln_split (s := s1) (r := r1) a.R0 k
  have x2 := ln_split (s := s2) (r := r2) b.R0 k
  unfold hsC
  show ln s1 r1 R1 k % H = ln s2 r2 R2 k % H ↔ _
  rw [mod_same, x1, x2, e, Int.sub_mul]
  generalize ln (s1 % R1) (r1 % R1) R1 k = u
  generalize ln (s2 % R2) (r2 % R2) R2 k = v
  generalize r1 / R1 * k = x
  generalize r2 / R2 * k = y
  rw [show s2 / R2 + x + u - (s2 / R2 + y + v) = x - y + u - v by omega]
theorem NF.rests {R s r : Int} (n : NF H R s r) : 0 ≤ s % R ∧ s % R < R ∧ 0 ≤ r % R ∧ r % R < R :=
  ⟨Int.emod_nonneg _ (Int.ne_of_gt n.R0), Int.emod_lt_of_pos _ n.R0, Int.emod_nonneg _ (Int.ne_of_gt n.R0), Int.emod_lt_of_pos _ n.R0⟩
theorem NF.ln0 {R s r : Int} (n : NF H R s r) : ln (s % R) (r % R) R 0 = 0 := ln_zero n.rests.1 n.rests.2.1
theorem NF.next {R s r : Int} (n : NF H R s r) (k : Int) : ln (s % R) (r % R) R k ≤ ln (s % R) (r % R) R (k + 1) ∧ ln (s % R) (r % R) R (k + 1) ≤ ln (s % R) (r % R) R k + 1 := ln_next n.R0 n.rests.2.2.1 n.rests.2.2.2
theorem un_start (a : NF H R1 s1 r1) (b : NF H R2 s2 r2) (e : hsC H R1 s1 r1 0 ≠ hsC H R2 s2 r2 0) : FstA (hsC H R1 s1 r1) (hsC H R2 s2 r2) (some 0) := ⟨Int.le_refl 0, e, fun k k0 k1 => absurd k1 (by omega)⟩
/-- level rises: told by the lines of their rests -/
theorem un_level (a : NF H R1 s1 r1) (b : NF H R2 s2 r2) (H2 : 2 ≤ H) (e : s1 / R1 = s2 / R2) (m : r1 / R1 = r2 / R2) : ∀ {y : Option Int}, FstA (ln (s1 % R1) (r1 % R1) R1) (ln (s2 % R2) (r2 % R2) R2) y → FstA (hsC H R1 s1 r1) (hsC H R2 s2 r2) y := by
  have key := fun k => hsC_iff a b e k
  rw [m, Int.sub_self] at key
  intro y u
  cases y with
  | none => exact fun k k0 => (key k).mpr ⟨0, by have := u k k0; rw [Int.zero_mul, Int.mul_zero]; omega⟩
  | some t =>
    obtain ⟨t0, ne, h⟩ := u
    have z1 := a.ln0
    have z2 := b.ln0
    have tp : t ≠ 0 := fun z => ne (by rw [z, z1, z2])
    have p := h (t - 1) (by omega) (by omega)
    have n1 := a.next (t - 1)
    have n2 := b.next (t - 1)
    rw [show t - 1 + 1 = t by omega] at n1 n2
    refine ⟨t0, fun c => not_dvd (H := H) (by rw [Int.zero_mul]; omega) (by rw [Int.zero_mul]; omega) (by rw [Int.zero_mul]; omega) ((key t).mp c), fun k k0 k1 => (key k).mpr ⟨0, by have := h k k0 k1; rw [Int.zero_mul, Int.mul_zero]; omega⟩⟩
/-- alike at all numbers with level rises: one form -/
theorem un_same (a : NF H R1 s1 r1) (b : NF H R2 s2 r2) (e : s1 / R1 = s2 / R2) (m : r1 / R1 = r2 / R2) (u : FstA (ln (s1 % R1) (r1 % R1) R1) (ln (s2 % R2) (r2 % R2) R2) none) : s1 = s2 ∧ r1 = r2 ∧ R1 = R2 := by
  obtain ⟨a1, a2, a3, a4⟩ := a.rests
  obtain ⟨b1, b2, b3, b4⟩ := b.rests
  have g1 : Int.gcd (r1 % R1) R1 = 1 := by
    rw [gcd_mod (Int.dvd_refl R1)]
    exact a.g
  have g2 : Int.gcd (r2 % R2) R2 = 1 := by
    rw [gcd_mod (Int.dvd_refl R2)]
    exact b.g
  obtain ⟨x1, x2, x3⟩ := ln_uniq a1 a2 a3 g1 b1 b2 b3 g2 u
  subst x3
  have e1 := Int.emod_add_mul_ediv s1 R1
  have e2 := Int.emod_add_mul_ediv s2 R1
  have e3 := Int.emod_add_mul_ediv r1 R1
  have e4 := Int.emod_add_mul_ediv r2 R1
  rw [e] at e1
  rw [m] at e3
  omega
/-- the second course climbs a house less: one line has stepped up, or the other one has once not -/
theorem un_gap (a : NF H R1 s1 r1) (b : NF H R2 s2 r2) (e : s1 / R1 = s2 / R2) (g : H ∣ r1 / R1 - r2 / R2 - 1) (h : 2 < H ∨ (H = 2 ∧ r1 / R1 = 1)) {y : Int} (u : FstA (fun k => k + ln (s1 % R1) (r1 % R1) R1 k) (ln (s2 % R2) (r2 % R2) R2) (some y)) : FstA (hsC H R1 s1 r1) (hsC H R2 s2 r2) (some y) := by
  have key : ∀ k, hsC H R1 s1 r1 k = hsC H R2 s2 r2 k ↔ H ∣ k + ln (s1 % R1) (r1 % R1) R1 k - ln (s2 % R2) (r2 % R2) R2 k := fun k => by
    rw [hsC_iff a b e k]
    obtain ⟨c, hc⟩ := g
    rw [show r1 / R1 - r2 / R2 = 1 + H * c by omega, Int.add_mul, Int.one_mul, Int.mul_assoc]
    generalize ln (s1 % R1) (r1 % R1) R1 k = p
    generalize ln (s2 % R2) (r2 % R2) R2 k = q
    rw [show k + H * (c * k) + p - q = (k + p - q) + H * (c * k) by omega]
    exact (Int.dvd_add_left (Int.dvd_mul_right _ _))
  obtain ⟨y0, ne, bef⟩ := u
  have z1 := a.ln0
  have z2 := b.ln0
  dsimp only at ne bef
  have yp : y ≠ 0 := fun z => ne (by rw [z, z1, z2]; rfl)
  have p := bef (y - 1) (by omega) (by omega)
  have n1 := a.next (y - 1)
  have n2 := b.next (y - 1)
  rw [show y - 1 + 1 = y by omega] at n1 n2
  have flat : H = 2 → r1 / R1 = 1 → ln (s1 % R1) (r1 % R1) R1 y = ln (s1 % R1) (r1 % R1) R1 (y - 1) := fun h2 m1 => by
    have tw := a.two h2
    have er := Int.emod_add_mul_ediv r1 R1
    rw [m1, Int.mul_one] at er
    have := a.rests.2.2.1
    have z : r1 % R1 = 0 := by omega
    unfold ln
    rw [z, Int.zero_mul, Int.zero_mul]
  refine ⟨y0, fun c => not_dvd (H := H) ?_ ?_ ?_ ((key y).mp c), fun k k0 k1 => (key k).mpr ⟨0, by have := bef k k0 k1; rw [Int.mul_zero]; omega⟩⟩
  · have := a.h0; omega
  · rcases h with h | ⟨h2, m1⟩
    · omega
    · have := flat h2 m1; omega
  · omega
/-- neither level nor a house apart -/
theorem un_far (a : NF H R1 s1 r1) (b : NF H R2 s2 r2) (e : s1 / R1 = s2 / R2) (g0 : ¬ H ∣ r1 / R1 - r2 / R2) (g1 : ¬ H ∣ r1 / R1 - r2 / R2 - 1) (g2 : ¬ H ∣ r1 / R1 - r2 / R2 + 1) : FstA (hsC H R1 s1 r1) (hsC H R2 s2 r2) (some 1) := by
  have key := fun k => hsC_iff a b e k
  have z1 := a.ln0
  have z2 := b.ln0
  have n1 := a.next 0
  have n2 := b.next 0
  rw [show (0 : Int) + 1 = 1 from rfl] at n1 n2
  refine ⟨by decide, fun c => ?_, fun k k0 k1 => ?_⟩
  · have d := (key 1).mp c
    rw [Int.mul_one] at d
    obtain h | h | h : ln (s1 % R1) (r1 % R1) R1 1 - ln (s2 % R2) (r2 % R2) R2 1 = 0 ∨ ln (s1 % R1) (r1 % R1) R1 1 - ln (s2 % R2) (r2 % R2) R2 1 = 1 ∨ ln (s1 % R1) (r1 % R1) R1 1 - ln (s2 % R2) (r2 % R2) R2 1 = -1 := by omega
    · exact g0 (by rw [show r1 / R1 - r2 / R2 + ln (s1 % R1) (r1 % R1) R1 1 - ln (s2 % R2) (r2 % R2) R2 1 = r1 / R1 - r2 / R2 by omega] at d; exact d)
    · exact g2 (by rw [show r1 / R1 - r2 / R2 + ln (s1 % R1) (r1 % R1) R1 1 - ln (s2 % R2) (r2 % R2) R2 1 = r1 / R1 - r2 / R2 + 1 by omega] at d; exact d)
    · exact g1 (by rw [show r1 / R1 - r2 / R2 + ln (s1 % R1) (r1 % R1) R1 1 - ln (s2 % R2) (r2 % R2) R2 1 = r1 / R1 - r2 / R2 - 1 by omega] at d; exact d)
  · obtain rfl : k = 0 := by omega
    rw [hsC_zero a, hsC_zero b]
    exact e
end
end MT
namespace MT
theorem ln_per {s r R : Int} (R0 : 0 < R) (m k : Int) : ln s r R (k + R * m) = ln s r R k + r * m := by
  unfold ln
  rw [show s + r * (k + R * m) = (s + r * k) + R * (r * m) by grind, Int.add_mul_ediv_left _ _ (Int.ne_of_gt R0)]
/-- unlike lines are unlike early -/
theorem ln_early {s1 r1 R1 s2 r2 R2 : Int} (a : 0 < R1) (b : 0 < R2) {t : Int} (h : FstA (ln s1 r1 R1) (ln s2 r2 R2) (some t)) : t ≤ R1 * R2 := by
  obtain ⟨t0, ne, m⟩ := h
  refine Int.not_lt.mp fun z => ne ?_
  have p := Int.mul_pos a b
  have h0 := m 0 (Int.le_refl 0) (by omega)
  have h1 := m (R1 * R2) (Int.le_of_lt p) z
  have h2 := m (t - R1 * R2) (by omega) (by omega)
  have e1 := ln_per (s := s1) (r := r1) a R2 0
  have e2 := ln_per (s := s2) (r := r2) b R1 0
  have e3 := ln_per (s := s1) (r := r1) a R2 (t - R1 * R2)
  have e4 := ln_per (s := s2) (r := r2) b R1 (t - R1 * R2)
  rw [Int.mul_comm R2 R1] at e2 e4
  rw [Int.zero_add] at e1 e2
  rw [show t - R1 * R2 + R1 * R2 = t by omega] at e3 e4
  omega
theorem hsC_per {H R s r : Int} (R0 : 0 < R) (m k : Int) : hsC H R s r (k + R * H * m) = hsC H R s r k := by
  unfold hsC
  show ln s r R _ % H = ln s r R k % H
  rw [show k + R * H * m = k + R * (H * m) by rw [Int.mul_assoc], ln_per R0, show r * (H * m) = H * (r * m) by grind, Int.add_mul_emod_self_left]
theorem hs_early {H R1 s1 r1 R2 s2 r2 : Int} (h0 : 0 < H) (a : 0 < R1) (b : 0 < R2) {t : Int} (h : FstA (hsC H R1 s1 r1) (hsC H R2 s2 r2) (some t)) : t < R1 * H * R2 := by
  obtain ⟨t0, ne, m⟩ := h
  refine Int.not_le.mp fun z => ne ?_
  have p := Int.mul_pos (Int.mul_pos a h0) b
  have h2 := m (t - R1 * H * R2) (by omega) (by omega)
  have e3 := hsC_per (H := H) (s := s1) (r := r1) a R2 (t - R1 * H * R2)
  have e4 := hsC_per (H := H) (s := s2) (r := r2) b R1 (t - R1 * H * R2)
  rw [show R2 * H * R1 = R1 * H * R2 by grind] at e4
  rw [show t - R1 * H * R2 + R1 * H * R2 = t by omega] at e3 e4
  rw [e3, e4, h2]
end MT
/-! how many numbers below a length are such; items that are sent, counted by marks -/
namespace MT
/-- how many numbers from 0 on and below m are such -/
def cnB (p : Int → Bool) (m : Int) : Int := sm (fun k => if p (k : Int) = true then 1 else 0) m.toNat
section
variable {p q : Int → Bool}
theorem cnB_zero (p : Int → Bool) : cnB p 0 = 0 := rfl
theorem cnB_step (p : Int → Bool) {k : Int} (k0 : 0 ≤ k) : cnB p (k + 1) = cnB p k + (if p k = true then 1 else 0) := by
  obtain ⟨n, rfl⟩ := Int.eq_ofNat_of_zero_le k0
  unfold cnB
  rw [show ((n : Int) + 1).toNat = n + 1 by omega, show ((n : Int)).toNat = n by omega]
  rfl
theorem cnB_nat (p : Int → Bool) (n : Nat) : cnB p n = sm (fun k => if p (k : Int) = true then 1 else 0) n := by
  unfold cnB
  rw [show ((n : Int)).toNat = n by omega]
theorem cnB_congr {m : Int} (h : ∀ k, 0 ≤ k → k < m → p k = q k) : cnB p m = cnB q m := by
  unfold cnB
  refine sm_congr fun i hi => ?_
  rw [h i (by omega) (by omega)]
theorem cnB_app (p : Int → Bool) {m n : Int} (m0 : 0 ≤ m) (n0 : 0 ≤ n) : cnB p (m + n) = cnB p m + cnB (fun k => p (m + k)) n := by
  obtain ⟨a, rfl⟩ := Int.eq_ofNat_of_zero_le m0
  obtain ⟨b, rfl⟩ := Int.eq_ofNat_of_zero_le n0
  unfold cnB
  rw [show ((a : Int) + (b : Int)).toNat = a + b by omega, show ((a : Int)).toNat = a by omega, show ((b : Int)).toNat = b by omega, sm_app]
  congr 1
theorem cnB_nn (p : Int → Bool) (m : Int) : 0 ≤ cnB p m ∧ (0 ≤ m → cnB p m ≤ m) := by
  have h : ∀ n : Nat, 0 ≤ cnB p n ∧ cnB p n ≤ n := by
    intro n
    induction n with
    | zero => exact ⟨Int.le_refl 0, Int.le_refl 0⟩
    | succ n ih =>
      rw [show ((n + 1 : Nat) : Int) = (n : Int) + 1 by omega, cnB_step p (Int.natCast_nonneg n)]
      split <;> omega
  have e : cnB p m = cnB p (m.toNat : Nat) := by
    unfold cnB
    rw [show ((m.toNat : Nat) : Int).toNat = m.toNat by omega]
  rw [e]
  have := h m.toNat
  omega
theorem cnB_mono (p : Int → Bool) {m n : Int} (m0 : 0 ≤ m) (h : m ≤ n) : cnB p m ≤ cnB p n := by
  have e := cnB_app p m0 (show 0 ≤ n - m by omega)
  rw [show m + (n - m) = n by omega] at e
  have := (cnB_nn (fun k => p (m + k)) (n - m)).1
  omega
theorem cnB_not (p : Int → Bool) {m : Int} (m0 : 0 ≤ m) : cnB (fun k => !p k) m = m - cnB p m := by
  obtain ⟨n, rfl⟩ := Int.eq_ofNat_of_zero_le m0
  rw [cnB_nat, cnB_nat]
  have h : ∀ n : Nat, sm (fun k => if (!p (k : Int)) = true then 1 else 0) n = (n : Int) - sm (fun k => if p (k : Int) = true then 1 else 0) n := by
    intro n
    induction n with
    | zero => rfl
    | succ n ih =>
      show sm _ n + (if (!p (n : Int)) = true then 1 else 0) = ((n + 1 : Nat) : Int) - (sm _ n + (if p (n : Int) = true then 1 else 0))
      rw [ih]
      cases p (n : Int)
      · rw [if_pos (by rfl), if_neg (by simp)]; omega
      · rw [if_neg (by simp), if_pos rfl]; omega
  exact h n
/-- what comes again grows by as much in each turn -/
theorem cnB_turn {T : Int} (T0 : 0 ≤ T) (per : ∀ k, 0 ≤ k → p (k + T) = p k) : ∀ (j : Nat) {k : Int}, 0 ≤ k → cnB p (k + T * j) = cnB p k + j * cnB p T
  | 0, k, _ => by rw [Int.natCast_zero, Int.mul_zero, Int.zero_mul, Int.add_zero, Int.add_zero]
  | j + 1, k, k0 => by
    have t0 : 0 ≤ T * (j : Int) := Int.mul_nonneg T0 (Int.natCast_nonneg j)
    rw [show k + T * ((j + 1 : Nat) : Int) = T + (k + T * j) by rw [Int.natCast_add, Int.mul_add]; omega, cnB_app p T0 (by omega), cnB_congr (p := fun k => p (T + k)) (q := p) (fun i i0 _ => by rw [Int.add_comm]; exact per i i0), cnB_turn T0 per j k0, Int.natCast_add, Int.add_mul]
    omega
theorem cnB_pos {m k : Int} (k0 : 0 ≤ k) (km : k < m) (h : p k = true) : 0 < cnB p m := by
  have e := cnB_step p k0
  rw [if_pos h] at e
  have := (cnB_nn p k).1
  have := cnB_mono p (m := k + 1) (n := m) (by omega) (by omega)
  omega
/-- the item with a number: the least one behind which more are such -/
structure IsItem (p : Int → Bool) (c i : Int) : Prop where
  i0 : 0 ≤ i
  is : p i = true
  e : cnB p i = c
theorem IsItem.of {c i : Int} (i0 : 0 ≤ i) (h1 : cnB p i ≤ c) (h2 : c < cnB p (i + 1)) : IsItem p c i := by
  have e := cnB_step p i0
  cases h : p i with
  | false => rw [h, if_neg (by simp)] at e; omega
  | true => rw [h, if_pos rfl] at e; exact ⟨i0, h, by omega⟩
theorem IsItem.ge {k i : Int} (k0 : 0 ≤ k) (h : IsItem p (cnB p k) i) : k ≤ i := by
  refine Int.not_lt.mp fun z => ?_
  have e := cnB_step p h.i0
  rw [if_pos h.is, h.e] at e
  have i0 := h.i0
  have := cnB_mono p (m := i + 1) (n := k) (by omega) (by omega)
  omega
theorem IsItem.turn {T c i : Int} (T0 : 0 ≤ T) (per : ∀ k, 0 ≤ k → p (k + T) = p k) (j : Nat) (h : IsItem p c i) : IsItem p (j * cnB p T + c) (j * T + i) := by
  have t0 : 0 ≤ T * (j : Int) := Int.mul_nonneg T0 (Int.natCast_nonneg j)
  have i0 := h.i0
  have pj : ∀ (j : Nat) (k : Int), 0 ≤ k → p (k + T * j) = p k := by
    intro j
    induction j with
    | zero => intro k _; rw [Int.natCast_zero, Int.mul_zero, Int.add_zero]
    | succ j ih =>
      intro k k0
      have t0 : 0 ≤ T * (j : Int) := Int.mul_nonneg T0 (Int.natCast_nonneg j)
      rw [show k + T * ((j + 1 : Nat) : Int) = k + T * j + T by rw [Int.natCast_add, Int.mul_add]; omega, per _ (by omega), ih k k0]
  rw [Int.mul_comm (j : Int) T]
  refine ⟨by omega, ?_, ?_⟩
  · rw [Int.add_comm, pj j i i0]
    exact h.is
  · rw [Int.add_comm, cnB_turn T0 per j i0, h.e]
    omega
end
/-! ### marks in a range -/
theorem fl_ind {M lo hi x : Int} (M0 : 0 < M) (l0 : 0 ≤ lo) (lh : lo ≤ hi) (hM : hi ≤ M) : (x - lo) / M - (x - hi) / M = if lo ≤ x % M ∧ x % M < hi then 1 else 0 := by
  have e := Int.emod_add_mul_ediv x M
  have m0 := Int.emod_nonneg x (Int.ne_of_gt M0)
  have m1 := Int.emod_lt_of_pos x M0
  generalize x % M = y at *
  generalize x / M = c at *
  have d : ∀ t, 0 ≤ t → t ≤ M → (x - t) / M = c + (if t ≤ y then 0 else -1) := fun t t0 tM => by
    rw [show x - t = (y - t) + M * c by omega, Int.add_mul_ediv_left _ _ (Int.ne_of_gt M0)]
    split
    · rw [Int.ediv_eq_zero_of_lt (by omega) (by omega)]; omega
    · have : (y - t) / M = -1 := by
        rw [show y - t = (y - t + M) + M * (-1) by omega, Int.add_mul_ediv_left _ _ (Int.ne_of_gt M0), Int.ediv_eq_zero_of_lt (by omega) (by omega)]
        rfl
      omega
  rw [d lo l0 (by omega), d hi (by omega) hM]
  split <;> split <;> split <;> omega
/-- the marks s + r * k that lie in a range, modulo M -/
def mkB (M r s lo hi : Int) (k : Int) : Bool := decide (lo ≤ (s + r * k) % M ∧ (s + r * k) % M < hi)
theorem mrk {M r s lo hi m : Int} (M0 : 0 < M) (l0 : 0 ≤ lo) (lh : lo ≤ hi) (hM : hi ≤ M) : f1 M r (s - lo) m.toNat - f1 M r (s - hi) m.toNat = cnB (mkB M r s lo hi) m := by
  unfold f1 cnB
  rw [← sm_sub]
  refine sm_congr fun i _ => ?_
  unfold fl mkB
  rw [show r * (i : Int) + (s - lo) = (s + r * i) - lo by omega, show r * (i : Int) + (s - hi) = (s + r * i) - hi by omega, fl_ind M0 l0 lh hM]
  split
  · rename_i h; rw [if_pos (decide_eq_true h)]
  · rename_i h; rw [if_neg (by simp only [decide_eq_true_eq]; exact h)]
end MT
/-! items that are sent, by the marks of two parallel courses, or of a resting one -/
namespace MT
/-- whether item k is sent -/
def sntB (H R s r R' s' r' : Int) (k : Int) : Bool := !decide (hsC H R s r k = hsC H R' s' r' k)
def sntN (H R s r R' s' r' m : Int) : Int := cnB (sntB H R s r R' s' r') m
/-- the range of the marks, modulo the run, of items that are sent; level courses -/
def smkF (H R s s' : Int) : Int × Int := if (s' - s) / R % H = 0 then (R - (s' - s) % R, R) else if ((s' - s) / R + 1) % H = 0 then (0, R - (s' - s) % R) else (0, R)
theorem add_div {x D R : Int} (R0 : 0 < R) : (x + D) / R = x / R + D / R + (if R ≤ x % R + D % R then 1 else 0) := by
  have e1 := Int.emod_add_mul_ediv x R
  have e2 := Int.emod_add_mul_ediv D R
  have a0 := Int.emod_nonneg x (Int.ne_of_gt R0)
  have a1 := Int.emod_lt_of_pos x R0
  have b0 := Int.emod_nonneg D (Int.ne_of_gt R0)
  have b1 := Int.emod_lt_of_pos D R0
  generalize x % R = y at *
  generalize D % R = z at *
  generalize x / R = c at *
  generalize D / R = d at *
  rw [show x + D = (y + z) + R * (c + d) by rw [Int.mul_add]; omega, Int.add_mul_ediv_left _ _ (Int.ne_of_gt R0)]
  split
  · have : (y + z) / R = 1 := by
      rw [show y + z = (y + z - R) + R * 1 by omega, Int.add_mul_ediv_left _ _ (Int.ne_of_gt R0), Int.ediv_eq_zero_of_lt (by omega) (by omega)]
      rfl
    omega
  · rw [Int.ediv_eq_zero_of_lt (by omega) (by omega)]; omega
theorem sub_div {x D R : Int} (R0 : 0 < R) : (D - x) / R = D / R - x / R - (if D % R < x % R then 1 else 0) := by
  have e1 := Int.emod_add_mul_ediv x R
  have e2 := Int.emod_add_mul_ediv D R
  have a0 := Int.emod_nonneg x (Int.ne_of_gt R0)
  have a1 := Int.emod_lt_of_pos x R0
  have b0 := Int.emod_nonneg D (Int.ne_of_gt R0)
  have b1 := Int.emod_lt_of_pos D R0
  generalize x % R = y at *
  generalize D % R = z at *
  generalize x / R = c at *
  generalize D / R = d at *
  rw [show D - x = (z - y) + R * (d - c) by rw [Int.mul_sub]; omega, Int.add_mul_ediv_left _ _ (Int.ne_of_gt R0)]
  split
  · have : (z - y) / R = -1 := by
      rw [show z - y = (z - y + R) + R * (-1) by omega, Int.add_mul_ediv_left _ _ (Int.ne_of_gt R0), Int.ediv_eq_zero_of_lt (by omega) (by omega)]
      rfl
    omega
  · rw [Int.ediv_eq_zero_of_lt (by omega) (by omega)]; omega
theorem ifc {p q : Prop} [Decidable p] [Decidable q] (h : p ↔ q) {a b : Int} : (if p then a else b) = if q then a else b := by
  by_cases c : p
  · rw [if_pos c, if_pos (h.mp c)]
  · rw [if_neg c, if_neg (fun z => c (h.mpr z))]
theorem dvd_mod {H x : Int} : H ∣ x ↔ x % H = 0 := ⟨Int.emod_eq_zero_of_dvd, Int.dvd_of_emod_eq_zero⟩
section
variable {H R s r R' s' r' : Int}
theorem smk_ok (R0 : 0 < R) : 0 ≤ (smkF H R s s').1 ∧ (smkF H R s s').1 ≤ (smkF H R s s').2 ∧ (smkF H R s s').2 ≤ R := by
  have b0 := Int.emod_nonneg (s' - s) (Int.ne_of_gt R0)
  have b1 := Int.emod_lt_of_pos (s' - s) R0
  unfold smkF
  split
  · exact ⟨by show 0 ≤ R - _; omega, by show R - _ ≤ R; omega, Int.le_refl _⟩
  · split
    · exact ⟨Int.le_refl 0, by show 0 ≤ R - _; omega, by show R - _ ≤ R; omega⟩
    · exact ⟨Int.le_refl 0, by show 0 ≤ R; omega, Int.le_refl R⟩
/-- level courses: an item is sent just if its mark lies in the range -/
theorem lvl_at (h0 : 0 < H) (R0 : 0 < R) (one : H = 1 → R = 1) (k : Int) : sntB H R s r R s' r k = mkB R r s (smkF H R s s').1 (smkF H R s s').2 k := by
  unfold sntB mkB hsC
  rw [show s' + r * k = (s + r * k) + (s' - s) by omega]
  generalize s + r * k = x
  generalize hD : s' - s = D
  have a0 := Int.emod_nonneg x (Int.ne_of_gt R0)
  have a1 := Int.emod_lt_of_pos x R0
  have b0 := Int.emod_nonneg D (Int.ne_of_gt R0)
  have b1 := Int.emod_lt_of_pos D R0
  rw [add_div R0, ← decide_not, decide_eq_decide]
  have cong : x / R % H = (x / R + D / R + (if R ≤ x % R + D % R then 1 else 0)) % H ↔ (D / R + (if R ≤ x % R + D % R then 1 else 0)) % H = 0 := by
    rw [mod_same, ← dvd_mod, ← Int.dvd_neg]
    rw [show -(x / R - (x / R + D / R + (if R ≤ x % R + D % R then 1 else 0))) = D / R + (if R ≤ x % R + D % R then 1 else 0) by omega]
  rw [cong]
  unfold smkF
  rw [hD]
  generalize x % R = y at *
  generalize hz : D % R = z at *
  have nxt : D / R % H = 0 → (D / R + 1) % H = 0 → H = 1 := fun u v => by
    have := Int.dvd_sub (dvd_mod.mpr v) (dvd_mod.mpr u)
    rw [show D / R + 1 - D / R = 1 by omega] at this
    have := Int.le_of_dvd (by decide) this
    omega
  by_cases c : D / R % H = 0
  · rw [if_pos c]
    by_cases q : R ≤ y + z
    · rw [if_pos q]
      refine ⟨fun _ => ⟨by dsimp only; omega, a1⟩, fun _ e => ?_⟩
      have := one (nxt c e)
      omega
    · rw [if_neg q, Int.add_zero]
      exact ⟨fun w => absurd c w, fun w => absurd w.1 (by dsimp only; omega)⟩
  · rw [if_neg c]
    by_cases c' : (D / R + 1) % H = 0
    · rw [if_pos c']
      by_cases q : R ≤ y + z
      · rw [if_pos q]
        exact ⟨fun w => absurd c' w, fun w => absurd w.2 (by dsimp only; omega)⟩
      · rw [if_neg q, Int.add_zero]
        exact ⟨fun _ => ⟨a0, by dsimp only; omega⟩, fun _ => c⟩
    · rw [if_neg c']
      refine ⟨fun _ => ⟨a0, a1⟩, fun _ => ?_⟩
      by_cases q : R ≤ y + z
      · rw [if_pos q]; exact c'
      · rw [if_neg q, Int.add_zero]; exact c
theorem snt_level (h0 : 0 < H) (R0 : 0 < R) (one : H = 1 → R = 1) (m : Int) : f1 R r (s - (smkF H R s s').1) m.toNat - f1 R r (s - (smkF H R s s').2) m.toNat = sntN H R s r R s' r m := by
  obtain ⟨a, b, c⟩ := smk_ok (H := H) (s := s) (s' := s') R0
  rw [mrk R0 a b c]
  exact cnB_congr fun k _ _ => (lvl_at h0 R0 one k).symm
/-- the houses whose double is a number, modulo H -/
def hlvF (n H : Int) : List Int := if H % 2 = 1 then [n * ((H + 1) / 2) % H] else if n % 2 = 1 then [] else [n / 2 % (H / 2), n / 2 % (H / 2) + H / 2]
theorem hlv_in (h0 : 0 < H) {n h : Int} (m : h ∈ hlvF n H) : 0 ≤ h ∧ h < H := by
  unfold hlvF at m
  split at m
  · rw [List.mem_singleton] at m
    subst m
    exact ⟨Int.emod_nonneg _ (Int.ne_of_gt h0), Int.emod_lt_of_pos _ h0⟩
  · split at m
    · exact absurd m List.not_mem_nil
    · have q0 : 0 < H / 2 := by omega
      have a0 := Int.emod_nonneg (n / 2) (Int.ne_of_gt q0)
      have a1 := Int.emod_lt_of_pos (n / 2) q0
      rcases List.mem_cons.mp m with rfl | m
      · omega
      · rw [List.mem_singleton.mp m]; omega
theorem hlv_sum {n g : Int} (h0 : 0 < H) (g0 : 0 ≤ g) (gH : g < H) : ((hlvF n H).map fun h => if h = g then (1 : Int) else 0).sum = if (2 * g - n) % H = 0 then 1 else 0 := by
  unfold hlvF
  split
  · rename_i o
    obtain ⟨q, hq⟩ : ∃ q, H = 2 * q + 1 := ⟨H / 2, by omega⟩
    rw [show (H + 1) / 2 = q + 1 by omega]
    rw [List.map_singleton, List.sum_singleton]
    have key : n * (q + 1) % H = g ↔ (2 * g - n) % H = 0 := by
      rw [← dvd_mod]
      constructor
      · intro e
        rw [← e]
        have e2 := Int.emod_add_mul_ediv (n * (q + 1)) H
        generalize n * (q + 1) % H = x at *
        refine ⟨n - 2 * (n * (q + 1) / H), ?_⟩
        rw [Int.mul_sub]
        have : H * n = n * (q + 1) * 2 - n := by rw [hq]; grind
        have e3 : H * (2 * (n * (q + 1) / H)) = 2 * (H * (n * (q + 1) / H)) := by grind
        omega
      · rintro ⟨c, hc⟩
        have : n * (q + 1) = g + H * (g - c * (q + 1)) := by
          have h1 : n = 2 * g - H * c := by omega
          rw [h1, hq]; grind
        rw [this, Int.add_mul_emod_self_left, Int.emod_eq_of_lt g0 gH]
    by_cases c : n * (q + 1) % H = g
    · rw [if_pos c, if_pos (key.mp c)]
    · rw [if_neg c, if_neg (fun z => c (key.mpr z))]
  · rename_i ev
    obtain ⟨q, hq⟩ : ∃ q, H = 2 * q := ⟨H / 2, by omega⟩
    subst hq
    have q0 : 0 < q := by omega
    split
    · rename_i o
      rw [if_neg]
      · rfl
      · rw [← dvd_mod]
        rintro ⟨c, hc⟩
        rw [show 2 * q * c = 2 * (q * c) by grind] at hc
        omega
    · rename_i o
      obtain ⟨p, rfl⟩ : ∃ p, n = 2 * p := ⟨n / 2, by omega⟩
      rw [show 2 * q / 2 = q by omega, show 2 * p / 2 = p by omega]
      rw [List.map_cons, List.map_singleton, List.sum_cons, List.sum_singleton]
      have e := Int.emod_add_mul_ediv p q
      have a0 := Int.emod_nonneg p (Int.ne_of_gt q0)
      have a1 := Int.emod_lt_of_pos p q0
      have key : (2 * g - 2 * p) % (2 * q) = 0 ↔ (p % q = g ∨ p % q + q = g) := by
        rw [← dvd_mod]
        constructor
        · rintro ⟨c, hc⟩
          have e2 : g - p = q * c := by
            rw [show 2 * q * c = 2 * (q * c) by grind] at hc
            omega
          have e3 : g % q = p % q := by
            rw [show g = p + q * c by omega, Int.add_mul_emod_self_left]
          have e4 := Int.emod_add_mul_ediv g q
          have u0 : 0 ≤ g / q := Int.ediv_nonneg g0 (Int.le_of_lt q0)
          have u1 : g / q < 2 := Int.ediv_lt_of_lt_mul q0 (by omega)
          obtain h | h : g / q = 0 ∨ g / q = 1 := by omega
          · rw [h, Int.mul_zero] at e4; left; omega
          · rw [h, Int.mul_one] at e4; right; omega
        · rintro (h | h)
          · refine ⟨-(p / q), ?_⟩
            rw [show 2 * q * -(p / q) = -(2 * (q * (p / q))) by grind]
            omega
          · refine ⟨1 - p / q, ?_⟩
            rw [show 2 * q * (1 - p / q) = 2 * q - (2 * (q * (p / q))) by grind]
            omega
      by_cases c : p % q = g
      · rw [if_pos c, if_neg (by omega), if_pos (key.mpr (.inl c))]; rfl
      · by_cases c' : p % q + q = g
        · rw [if_neg c, if_pos c', if_pos (key.mpr (.inr c'))]; rfl
        · rw [if_neg c, if_neg c', if_neg (fun z => (key.mp z).elim c c')]; rfl
/-- the ranges of the marks of items that stay; opposite courses -/
def kptF (H R s s' : Int) : List (Int × Int) :=
  ((hlvF ((s + s') / R) H).map fun h => (h * R, h * R + (s + s') % R + 1)) ++ (hlvF ((s + s') / R - 1) H).map fun h => (h * R + (s + s') % R + 1, (h + 1) * R)
theorem kpt_in (h0 : 0 < H) (R0 : 0 < R) {p : Int × Int} (m : p ∈ kptF H R s s') : 0 ≤ p.1 ∧ p.1 ≤ p.2 ∧ p.2 ≤ R * H := by
  have b0 := Int.emod_nonneg (s + s') (Int.ne_of_gt R0)
  have b1 := Int.emod_lt_of_pos (s + s') R0
  have low : ∀ h, 0 ≤ h → h < H → 0 ≤ h * R ∧ h * R + R ≤ R * H := fun h a b => by
    have u := Int.mul_nonneg a (Int.le_of_lt R0)
    have v := Int.mul_le_mul_of_nonneg_right (show h + 1 ≤ H by omega) (Int.le_of_lt R0)
    rw [Int.add_mul, Int.one_mul, Int.mul_comm H R] at v
    exact ⟨u, v⟩
  unfold kptF at m
  rcases List.mem_append.mp m with m | m
  · obtain ⟨h, hm, rfl⟩ := List.mem_map.mp m
    obtain ⟨u, v⟩ := hlv_in h0 hm
    have := low h u v
    dsimp only
    omega
  · obtain ⟨h, hm, rfl⟩ := List.mem_map.mp m
    obtain ⟨u, v⟩ := hlv_in h0 hm
    have := low h u v
    dsimp only
    rw [Int.add_mul, Int.one_mul]
    omega
theorem sum_sm {α : Type} (f : α → Nat → Int) (n : Nat) : ∀ l : List α, (l.map fun a => sm (f a) n).sum = sm (fun k => (l.map fun a => f a k).sum) n
  | [] => (sm_zero n).symm
  | a :: l => by
    rw [List.map_cons, List.sum_cons, sum_sm f n l, ← sm_add]
    rfl
theorem sum_zero {α : Type} {f : α → Int} : ∀ {l : List α}, (∀ a ∈ l, f a = 0) → (l.map f).sum = 0
  | [], _ => rfl
  | a :: l, h => by rw [List.map_cons, List.sum_cons, h a (List.mem_cons_self ..), sum_zero fun b m => h b (List.mem_cons_of_mem _ m)]; rfl
theorem sum_congr {α : Type} {f g : α → Int} {l : List α} (h : ∀ a ∈ l, f a = g a) : (l.map f).sum = (l.map g).sum := by
  rw [List.map_congr_left h]
/-- at each number: how many of the ranges hold its mark -/
theorem kpt_at (h0 : 0 < H) (R0 : 0 < R) (op : (r + r') % (R * H) = 0) (k : Int) : ((kptF H R s s').map fun p => if mkB (R * H) r s p.1 p.2 k = true then (1 : Int) else 0).sum = if (!sntB H R s r R s' r' k) = true then 1 else 0 := by
  unfold sntB mkB hsC
  obtain ⟨j, hj⟩ := Int.dvd_of_emod_eq_zero op
  rw [show s' + r' * k = ((s + s') - (s + r * k)) + R * (H * (j * k)) by
    have : r' = R * H * j - r := by omega
    rw [this]; grind, Int.add_mul_ediv_left _ _ (Int.ne_of_gt R0), Int.add_mul_emod_self_left, Bool.not_not]
  generalize s + r * k = x
  unfold kptF
  generalize s + s' = D
  have a0 := Int.emod_nonneg x (Int.ne_of_gt R0)
  have a1 := Int.emod_lt_of_pos x R0
  have b0 := Int.emod_nonneg D (Int.ne_of_gt R0)
  have b1 := Int.emod_lt_of_pos D R0
  rw [sub_div R0, md_split R0 h0]
  have g0 := Int.emod_nonneg (x / R) (Int.ne_of_gt h0)
  have g1 := Int.emod_lt_of_pos (x / R) h0
  have cong : ∀ e : Int, x / R % H = (D / R - x / R - e) % H ↔ (2 * (x / R % H) - (D / R - e)) % H = 0 := fun e => by
    rw [mod_same, ← dvd_mod]
    have em := Int.emod_add_mul_ediv (x / R) H
    generalize x / R % H = g at *
    generalize x / R / H = c at *
    rw [show x / R - (D / R - x / R - e) = (2 * g - (D / R - e)) + H * (2 * c) by
      have : H * (2 * c) = 2 * (H * c) := by grind
      omega]
    exact Int.dvd_add_left (Int.dvd_mul_right _ _)
  simp only [decide_eq_true_eq]
  rw [List.map_append, List.sum_append, List.map_map, List.map_map]
  generalize hg : x / R % H = g at *
  generalize x % R = y at *
  generalize D % R = z at *
  have at1 : ∀ h ∈ hlvF (D / R) H, (if h * R ≤ R * g + y ∧ R * g + y < h * R + z + 1 then (1 : Int) else 0) = if y ≤ z then (if h = g then 1 else 0) else 0 := fun h hm => by
    have c : (h * R ≤ R * g + y ∧ R * g + y < h * R + z + 1) ↔ (h = g ∧ y ≤ z) := by
      constructor
      · rintro ⟨u, v⟩
        have hgE : h = g := by
          rcases Int.lt_trichotomy h g with l | l | l
          · have := Int.mul_le_mul_of_nonneg_right (show h + 1 ≤ g by omega) (Int.le_of_lt R0)
            rw [Int.add_mul, Int.one_mul, Int.mul_comm g R] at this
            omega
          · exact l
          · have := Int.mul_le_mul_of_nonneg_right (show g + 1 ≤ h by omega) (Int.le_of_lt R0)
            rw [Int.add_mul, Int.one_mul, Int.mul_comm g R] at this
            omega
        subst hgE
        rw [Int.mul_comm R h] at v
        exact ⟨rfl, by omega⟩
      · rintro ⟨rfl, w⟩
        rw [Int.mul_comm R h]
        omega
    by_cases q : y ≤ z
    · rw [if_pos q]
      by_cases e : h = g
      · rw [if_pos e, if_pos (c.mpr ⟨e, q⟩)]
      · rw [if_neg e, if_neg (fun w => e (c.mp w).1)]
    · rw [if_neg q, if_neg (fun w => q (c.mp w).2)]
  have at2 : ∀ h ∈ hlvF (D / R - 1) H, (if h * R + z + 1 ≤ R * g + y ∧ R * g + y < (h + 1) * R then (1 : Int) else 0) = if y ≤ z then 0 else (if h = g then 1 else 0) := fun h hm => by
    have c : (h * R + z + 1 ≤ R * g + y ∧ R * g + y < (h + 1) * R) ↔ (h = g ∧ z < y) := by
      rw [Int.add_mul, Int.one_mul]
      constructor
      · rintro ⟨u, v⟩
        have hgE : h = g := by
          rcases Int.lt_trichotomy h g with l | l | l
          · have := Int.mul_le_mul_of_nonneg_right (show h + 1 ≤ g by omega) (Int.le_of_lt R0)
            rw [Int.add_mul, Int.one_mul, Int.mul_comm g R] at this
            omega
          · exact l
          · have := Int.mul_le_mul_of_nonneg_right (show g + 1 ≤ h by omega) (Int.le_of_lt R0)
            rw [Int.add_mul, Int.one_mul, Int.mul_comm g R] at this
            omega
        subst hgE
        rw [Int.mul_comm R h] at u
        exact ⟨rfl, by omega⟩
      · rintro ⟨rfl, w⟩
        rw [Int.mul_comm R h]
        omega
    by_cases q : y ≤ z
    · rw [if_pos q, if_neg (fun w => by have := (c.mp w).2; omega)]
    · rw [if_neg q]
      by_cases e : h = g
      · rw [if_pos e, if_pos (c.mpr ⟨e, by omega⟩)]
      · rw [if_neg e, if_neg (fun w => e (c.mp w).1)]
  show ((hlvF (D / R) H).map fun h => if h * R ≤ R * g + y ∧ R * g + y < h * R + z + 1 then (1 : Int) else 0).sum + ((hlvF (D / R - 1) H).map fun h => if h * R + z + 1 ≤ R * g + y ∧ R * g + y < (h + 1) * R then (1 : Int) else 0).sum = _
  rw [sum_congr at1, sum_congr at2, ifc (cong _)]
  by_cases q : y ≤ z
  · simp only [if_pos q]
    rw [if_neg (show ¬ z < y by omega), Int.sub_zero, hlv_sum h0 g0 g1, sum_zero (fun _ _ => rfl), Int.add_zero]
  · simp only [if_neg q]
    rw [if_pos (show z < y by omega), hlv_sum h0 g0 g1, sum_zero (fun _ _ => rfl), Int.zero_add]
/-- opposite courses: what stays, by the ranges -/
theorem snt_opposite (h0 : 0 < H) (R0 : 0 < R) (op : (r + r') % (R * H) = 0) {m : Int} (m0 : 0 ≤ m) : m - ((kptF H R s s').map fun p => f1 (R * H) r (s - p.1) m.toNat - f1 (R * H) r (s - p.2) m.toNat).sum = sntN H R s r R s' r' m := by
  have M0 := Int.mul_pos R0 h0
  have e1 : ((kptF H R s s').map fun p => f1 (R * H) r (s - p.1) m.toNat - f1 (R * H) r (s - p.2) m.toNat).sum = cnB (fun k => !sntB H R s r R s' r' k) m := by
    rw [sum_congr (g := fun p => sm (fun k => if mkB (R * H) r s p.1 p.2 (k : Int) = true then 1 else 0) m.toNat) (fun p hp => by
      obtain ⟨a, b, c⟩ := kpt_in h0 R0 hp
      exact mrk M0 a b c), sum_sm]
    unfold cnB
    exact sm_congr fun i _ => kpt_at h0 R0 op i
  rw [e1, cnB_not _ m0]
  unfold sntN
  omega
/-- a resting course: what stays is what the other one has in its house -/
theorem snt_rest (R0' : 0 < R') (h0 : 0 < H) {g : Int} (g0 : 0 ≤ g) (gH : g < H) (hg : ∀ k, hsC H R s r k = g) {m : Int} (m0 : 0 ≤ m) : m - (f1 (R' * H) r' (s' - g * R') m.toNat - f1 (R' * H) r' (s' - g * R' - R') m.toNat) = sntN H R s r R' s' r' m := by
  have M0 := Int.mul_pos R0' h0
  have a0 := Int.mul_nonneg g0 (Int.le_of_lt R0')
  have a1 := Int.mul_le_mul_of_nonneg_right (show g + 1 ≤ H by omega) (Int.le_of_lt R0')
  rw [Int.add_mul, Int.one_mul, Int.mul_comm H R'] at a1
  rw [show s' - g * R' - R' = s' - (g * R' + R') by omega, mrk M0 a0 (by omega) a1]
  have e : cnB (mkB (R' * H) r' s' (g * R') (g * R' + R')) m = cnB (fun k => !sntB H R s r R' s' r' k) m := by
    refine cnB_congr fun k _ _ => ?_
    unfold mkB sntB
    rw [Bool.not_not, hg k, decide_eq_decide]
    unfold hsC
    generalize s' + r' * k = x
    rw [md_split R0' h0]
    have b0 := Int.emod_nonneg x (Int.ne_of_gt R0')
    have b1 := Int.emod_lt_of_pos x R0'
    generalize x / R' % H = h at *
    generalize x % R' = y at *
    constructor
    · rintro ⟨u, v⟩
      rcases Int.lt_trichotomy g h with l | l | l
      · have := Int.mul_le_mul_of_nonneg_right (show g + 1 ≤ h by omega) (Int.le_of_lt R0')
        rw [Int.add_mul, Int.one_mul, Int.mul_comm h R'] at this
        omega
      · exact l
      · have := Int.mul_le_mul_of_nonneg_right (show h + 1 ≤ g by omega) (Int.le_of_lt R0')
        rw [Int.add_mul, Int.one_mul, Int.mul_comm h R'] at this
        omega
    · rintro rfl
      rw [Int.mul_comm R' g]
      omega
  rw [e, cnB_not _ m0]
  unfold sntN
  omega
theorem snt_symm (H R s r R' s' r' m : Int) : sntN H R s r R' s' r' m = sntN H R' s' r' R s r m := by
  refine cnB_congr fun k _ _ => ?_
  unfold sntB
  rw [decide_eq_decide.mpr ⟨Eq.symm, Eq.symm⟩]
end
end MT
/-! statements that are not silent send some item of a joint turn -/
namespace MT
theorem fst_ex (f g : Int → Int) : ∃ o, FstA f g o := by
  refine Classical.byContradiction fun no => ?_
  have all : ∀ n : Nat, ∀ k : Nat, k < n → f k = g k := by
    intro n
    induction n with
    | zero => intro k h; omega
    | succ n ih =>
      intro k h
      refine Classical.byContradiction fun ne => ?_
      have e : k = n := by
        refine Classical.byContradiction fun z => ne (ih k (by omega))
      subst e
      refine no ⟨some k, Int.natCast_nonneg k, ne, fun j j0 jk => ?_⟩
      obtain ⟨i, rfl⟩ := Int.eq_ofNat_of_zero_le j0
      exact ih i (by omega)
  refine no ⟨none, fun k k0 => ?_⟩
  obtain ⟨i, rfl⟩ := Int.eq_ofNat_of_zero_le k0
  exact all (i + 1) i (by omega)
section
variable {H R1 s1 r1 R2 s2 r2 : Int}
theorem two_of (a : NF H R1 s1 r1) (b : NF H R2 s2 r2) (ne : ¬ (s1 = s2 ∧ r1 = r2 ∧ R1 = R2)) : 2 ≤ H := by
  have h0 := a.h0
  refine Int.not_lt.mp fun z => ne ?_
  have h1 : H = 1 := by omega
  have q1 := a.one h1
  have q2 := b.one h1
  have w1 := a.sM
  have w2 := a.rM
  have w3 := b.sM
  have w4 := b.rM
  have w5 := a.s0
  have w6 := a.r0
  have w7 := b.s0
  have w8 := b.r0
  rw [q1, h1] at w1 w2
  rw [q2, h1] at w3 w4
  omega
/-- unlike forms: some item is sent -/
theorem some_sent (a : NF H R1 s1 r1) (b : NF H R2 s2 r2) (ne : ¬ (s1 = s2 ∧ r1 = r2 ∧ R1 = R2)) : ∃ k, 0 ≤ k ∧ hsC H R1 s1 r1 k ≠ hsC H R2 s2 r2 k := by
  have H2 := two_of a b ne
  have h0 := a.h0
  refine Classical.byContradiction fun no => ?_
  have all : ∀ k, 0 ≤ k → hsC H R1 s1 r1 k = hsC H R2 s2 r2 k := fun k k0 => Classical.byContradiction fun z => no ⟨k, k0, z⟩
  have bad : ∀ {y : Int}, FstA (hsC H R1 s1 r1) (hsC H R2 s2 r2) (some y) → False := fun f => f.2.1 (all _ f.1)
  have z := all 0 (Int.le_refl 0)
  rw [hsC_zero a, hsC_zero b] at z
  obtain ⟨a1, a2, a3, a4⟩ := a.rests
  obtain ⟨b1, b2, b3, b4⟩ := b.rests
  obtain ⟨-, -, m1, m2⟩ := a.whole
  obtain ⟨-, -, m3, m4⟩ := b.whole
  by_cases m : r1 / R1 = r2 / R2
  · obtain ⟨o, f⟩ := fst_ex (ln (s1 % R1) (r1 % R1) R1) (ln (s2 % R2) (r2 % R2) R2)
    cases o with
    | none => exact ne (un_same a b z m f)
    | some y => exact bad (un_level a b H2 z m f)
  · have tw1 : H = 2 → r1 / R1 ≤ 1 := fun _ => by omega
    by_cases c1 : H ∣ r1 / R1 - r2 / R2 - 1
    · by_cases c2 : 2 < H ∨ (H = 2 ∧ r1 / R1 = 1)
      · exact bad (un_gap a b z c1 c2 (skip_first a1 a2 a3 a4 b1 b2 b3 b4))
      · have h2 : H = 2 := by omega
        have r10 : r1 / R1 = 0 := by omega
        have r21 : r2 / R2 = 1 := by omega
        exact bad (un_gap b a z.symm ⟨0, by omega⟩ (.inr ⟨h2, r21⟩) (skip_first b1 b2 b3 b4 a1 a2 a3 a4)).symm
    · by_cases c2 : H ∣ r1 / R1 - r2 / R2 + 1
      · have c3 : H ∣ r2 / R2 - r1 / R1 - 1 := by
          obtain ⟨c, hc⟩ := c2
          exact ⟨-c, by rw [Int.mul_neg]; omega⟩
        have nh2 : H ≠ 2 := fun h => by
          subst h
          obtain ⟨c, hc⟩ := c2
          exact c1 ⟨c - 1, by omega⟩
        exact bad (un_gap b a z.symm c3 (by omega) (skip_first b1 b2 b3 b4 a1 a2 a3 a4)).symm
      · exact bad (un_far a b z (not_dvd (by omega) (by omega) (by omega)) c1 c2)
/-- the joint turn -/
def jtF (H R r R' r' : Int) : Int := lc (tu R H r) (tu R' H r')
theorem hs_T {R s r T : Int} (R0 : 0 < R) (d : R * H ∣ r * T) (k : Int) : hsC H R s r (k + T) = hsC H R s r k := by
  obtain ⟨c, hc⟩ := d
  unfold hsC
  rw [show s + r * (k + T) = s + r * k + R * (H * c) by rw [Int.mul_add, hc]; grind, Int.add_mul_ediv_left _ _ (Int.ne_of_gt R0), Int.add_mul_emod_self_left]
theorem jt_ok (h0 : 0 < H) (R0 : 0 < R1) (R0' : 0 < R2) : 0 < jtF H R1 r1 R2 r2 ∧ jtF H R1 r1 R2 r2 ≤ R1 * (R2 * H) ∧ (∀ k, hsC H R1 s1 r1 (k + jtF H R1 r1 R2 r2) = hsC H R1 s1 r1 k) ∧ ∀ k, hsC H R2 s2 r2 (k + jtF H R1 r1 R2 r2) = hsC H R2 s2 r2 k := by
  obtain ⟨t1, e1⟩ := tu_nn (r := r1) R0 h0
  obtain ⟨t2, e2⟩ := tu_nn (r := r2) R0' h0
  have L0 : 0 < R1 * (R2 * H) := Int.mul_pos R0 (Int.mul_pos R0' h0)
  have d1 : tu R1 H r1 ∣ R1 * (R2 * H) := ⟨(Int.gcd r1 (R1 * H) : Nat) * R2, by rw [← Int.mul_assoc (tu R1 H r1), e1]; grind⟩
  have d2 : tu R2 H r2 ∣ R1 * (R2 * H) := ⟨(Int.gcd r2 (R2 * H) : Nat) * R1, by rw [← Int.mul_assoc (tu R2 H r2), e2]; grind⟩
  obtain ⟨p, q, x, y⟩ := lc_dvd t1 t2 L0 d1 d2
  exact ⟨p, Int.le_of_dvd L0 q, hs_T R0 (tu_per R0 h0 x), hs_T R0' (tu_per R0' h0 y)⟩
theorem snt_turn (h0 : 0 < H) (R0 : 0 < R1) (R0' : 0 < R2) (k : Int) : sntB H R1 s1 r1 R2 s2 r2 (k + jtF H R1 r1 R2 r2) = sntB H R1 s1 r1 R2 s2 r2 k := by
  obtain ⟨_, _, x, y⟩ := jt_ok (s1 := s1) (s2 := s2) (r1 := r1) (r2 := r2) h0 R0 R0'
  unfold sntB
  rw [x, y]
theorem snt_pos (a : NF H R1 s1 r1) (b : NF H R2 s2 r2) (ne : ¬ (s1 = s2 ∧ r1 = r2 ∧ R1 = R2)) : 0 < sntN H R1 s1 r1 R2 s2 r2 (jtF H R1 r1 R2 r2) := by
  obtain ⟨k, k0, hk⟩ := some_sent a b ne
  obtain ⟨T0, _, x, y⟩ := jt_ok (s1 := s1) (s2 := s2) (r1 := r1) (r2 := r2) a.h0 a.R0 b.R0
  generalize jtF H R1 r1 R2 r2 = T at *
  have m0 := Int.emod_nonneg k (Int.ne_of_gt T0)
  have m1 := Int.emod_lt_of_pos k T0
  have e := Int.emod_add_mul_ediv k T
  have go : ∀ (f : Int → Int), (∀ k, f (k + T) = f k) → ∀ (j : Nat) (i : Int), f (i + T * j) = f i := fun f hf j => by
    induction j with
    | zero => intro i; rw [Int.natCast_zero, Int.mul_zero, Int.add_zero]
    | succ j ih => intro i; rw [show i + T * ((j + 1 : Nat) : Int) = i + T * j + T by rw [Int.natCast_add, Int.mul_add]; omega, hf, ih]
  obtain ⟨j, hj⟩ := Int.eq_ofNat_of_zero_le (Int.ediv_nonneg k0 (Int.le_of_lt T0))
  rw [hj] at e
  have f1 := go _ x j (k % T)
  have f2 := go _ y j (k % T)
  rw [e] at f1 f2
  refine cnB_pos (k := k % T) m0 m1 ?_
  unfold sntB
  rw [← f1, ← f2, Bool.not_eq_true', decide_eq_false_iff_not]
  exact hk
/-- level, opposite, or one of them rests -/
def Cntd (H R r R' r' : Int) : Prop := (R = R' ∧ r = r') ∨ (R = R' ∧ (r + r') % (R * H) = 0) ∨ r = 0 ∨ r' = 0
/-! ### the courses that the law draws are counted -/
theorem nr_mod {H R r : Int} : nr R H r = if tnd R H r then -r % (nR R H * H) else r % (nR R H * H) := by
  unfold nr
  split <;> rfl
theorem cnt_same {H R r j : Int} (R0 : 0 < R) (h0 : 0 < H) : Cntd H (nR R H) (nr R H r) (nR R H) (nr R H (r + R * H * j)) := by
  refine .inl ⟨rfl, ?_⟩
  by_cases h1 : 1 < H
  · have e : nR R H = R := if_pos h1
    have m1 : (r + R * H * j) % (R * H) = r % (R * H) := Int.add_mul_emod_self_left ..
    have m2 : -(r + R * H * j) % (R * H) = -r % (R * H) := by
      rw [show -(r + R * H * j) = -r + R * H * (-j) by rw [Int.mul_neg]; omega, Int.add_mul_emod_self_left]
    have t : tnd R H (r + R * H * j) ↔ tnd R H r := by
      unfold tnd
      rw [e, m1]
    rw [nr_mod, nr_mod, e, m1, m2]
    by_cases c : tnd R H r
    · rw [if_pos c, if_pos (t.mpr c)]
    · rw [if_neg c, if_neg (fun z => c (t.mp z))]
  · have h : H = 1 := by omega
    subst h
    have e : nR R 1 = 1 := if_neg (by decide)
    rw [nr_mod, nr_mod, e, Int.one_mul]
    split <;> split <;> rw [Int.emod_one, Int.emod_one]
theorem cnt_neg {H R r : Int} (R0 : 0 < R) (h0 : 0 < H) : Cntd H (nR R H) (nr R H r) (nR R H) (nr R H (-r)) := by
  have p := nR_pos (H := H) R0
  have M0 := Int.mul_pos p h0
  have sum : ∀ x : Int, (x % (nR R H * H) + -x % (nR R H * H)) % (nR R H * H) = 0 := fun x => by
    rw [← Int.add_emod, show x + -x = 0 by omega]
    rfl
  rw [nr_mod, nr_mod]
  by_cases h2 : H = 2
  · subst h2
    have e : nR R 2 = R := if_pos (by decide)
    have a0 := Int.emod_nonneg r (Int.ne_of_gt M0)
    have a1 := Int.emod_lt_of_pos r M0
    have ng : r % (nR R 2 * 2) ≠ 0 → -r % (nR R 2 * 2) = nR R 2 * 2 - r % (nR R 2 * 2) := fun z => by
      have := Int.emod_add_mul_ediv r (nR R 2 * 2)
      rw [show -r = (nR R 2 * 2 - r % (nR R 2 * 2)) + nR R 2 * 2 * (-(r / (nR R 2 * 2)) - 1) by rw [Int.mul_sub, Int.mul_neg]; omega, Int.add_mul_emod_self_left]
      exact Int.emod_eq_of_lt (by omega) (by omega)
    have t1 : tnd R 2 r ↔ R < r % (nR R 2 * 2) := ⟨fun w => w.2, fun w => ⟨rfl, w⟩⟩
    have t2 : tnd R 2 (-r) ↔ R < -r % (nR R 2 * 2) := ⟨fun w => w.2, fun w => ⟨rfl, w⟩⟩
    rw [e] at t1 t2 ng a0 a1 ⊢
    rw [Int.neg_neg]
    by_cases z : r % (R * 2) = 0
    · have z2 : -r % (R * 2) = 0 := by
        have := Int.dvd_of_emod_eq_zero z
        exact Int.emod_eq_zero_of_dvd (Int.dvd_neg.mpr this)
      rw [if_neg (fun w => by have := t1.mp w; omega), if_neg (fun w => by have := t2.mp w; omega)]
      exact .inl ⟨rfl, by omega⟩
    · have := ng z
      by_cases c : R < r % (R * 2)
      · rw [if_pos (t1.mpr c), if_neg (fun w => by have := t2.mp w; omega)]
        exact .inl ⟨rfl, rfl⟩
      · rw [if_neg (fun w => c (t1.mp w))]
        by_cases c' : R < -r % (R * 2)
        · rw [if_pos (t2.mpr c')]
          exact .inl ⟨rfl, rfl⟩
        · rw [if_neg (fun w => c' (t2.mp w))]
          exact .inl ⟨rfl, by omega⟩
  · rw [if_neg (fun w => h2 w.1), if_neg (fun w => h2 w.1)]
    exact .inr (.inl ⟨rfl, sum r⟩)
theorem nr_still {H j : Int} : nr 1 H (H * j) = 0 := by
  have e : nR 1 H = 1 := by unfold nR; split <;> rfl
  rw [nr_mod, e, Int.one_mul, ← Int.mul_neg, Int.mul_emod_right, Int.mul_emod_right]
  split <;> rfl
end
end MT
namespace K25
open PySem L2 DS VL
def top (i : Nat) : Stmt := PySem.Challenge.pw_dealtsums_k25_items_sent_below_a_length.main.body.getD i (.Pass ⟨0, 0, 0, 0⟩)
abbrev s_is_integer : Stmt := top 7
abbrev N_is_integer : List Str := ["value"]
theorem sc_is_integer : FnScope ["value"] ["value"] (defScope s_is_integer) := ⟨rfl, rfl, rfl, by decide +kernel, rfl, by decide +kernel, by decide +kernel⟩
abbrev s_is_whole : Stmt := top 8
abbrev N_is_whole : List Str := ["value"]
theorem sc_is_whole : FnScope ["value"] ["value"] (defScope s_is_whole) := ⟨rfl, rfl, rfl, by decide +kernel, rfl, by decide +kernel, by decide +kernel⟩
abbrev s_need_integer : Stmt := top 9
abbrev N_need_integer : List Str := ["value"]
theorem sc_need_integer : FnScope ["value"] ["value"] (defScope s_need_integer) := ⟨rfl, rfl, rfl, by decide +kernel, rfl, by decide +kernel, by decide +kernel⟩
abbrev s_need_whole : Stmt := top 10
abbrev N_need_whole : List Str := ["value"]
theorem sc_need_whole : FnScope ["value"] ["value"] (defScope s_need_whole) := ⟨rfl, rfl, rfl, by decide +kernel, rfl, by decide +kernel, by decide +kernel⟩
abbrev s_need_positive : Stmt := top 11
abbrev N_need_positive : List Str := ["value"]
theorem sc_need_positive : FnScope ["value"] ["value"] (defScope s_need_positive) := ⟨rfl, rfl, rfl, by decide +kernel, rfl, by decide +kernel, by decide +kernel⟩
abbrev s_need_below : Stmt := top 12
abbrev N_need_below : List Str := ["value", "bound"]
theorem sc_need_below : FnScope ["value", "bound"] ["value", "bound"] (defScope s_need_below) := ⟨rfl, rfl, rfl, by decide +kernel, rfl, by decide +kernel, by decide +kernel⟩
abbrev s_common_factor : Stmt := top 13
abbrev N_common_factor : List Str := ["one", "other"]
theorem sc_common_factor : FnScope ["one", "other"] ["one", "other"] (defScope s_common_factor) := ⟨rfl, rfl, rfl, by decide +kernel, rfl, by decide +kernel, by decide +kernel⟩
abbrev s_total_of : Stmt := top 18
abbrev N_total_of : List Str := ["many", "run", "rise", "start", "total", "sign", "top"]
theorem sc_total_of : FnScope ["many", "run", "rise", "start", "total", "sign", "top"] ["many", "run", "rise", "start"] (defScope s_total_of) := ⟨rfl, rfl, rfl, by decide +kernel, rfl, by decide +kernel, by decide +kernel⟩
abbrev s_count_in : Stmt := top 19
abbrev N_count_in : List Str := ["many", "run", "rise", "start", "length"]
theorem sc_count_in : FnScope ["many", "run", "rise", "start", "length"] ["many", "run", "rise", "start", "length"] (defScope s_count_in) := ⟨rfl, rfl, rfl, by decide +kernel, rfl, by decide +kernel, by decide +kernel⟩
abbrev s_folded : Stmt := top 15
abbrev N_folded : List Str := ["many", "top", "inner", "one", "two", "three", "last", "total", "weighted"]
theorem sc_folded : FnScope ["many", "top", "inner", "one", "two", "three", "last", "total", "weighted"] ["many", "top", "inner"] (defScope s_folded) := ⟨rfl, rfl, rfl, by decide +kernel, rfl, by decide +kernel, by decide +kernel⟩
abbrev s_raised : Stmt := top 16
abbrev N_raised : List Str := ["many", "rise", "start", "sums", "one", "two", "three", "first", "second", "squares"]
theorem sc_raised : FnScope ["many", "rise", "start", "sums", "one", "two", "three", "first", "second", "squares"] ["many", "rise", "start", "sums"] (defScope s_raised) := ⟨rfl, rfl, rfl, by decide +kernel, rfl, by decide +kernel, by decide +kernel⟩
abbrev s_sums_of : Stmt := top 17
abbrev N_sums_of : List Str := ["many", "run", "rise", "start", "steps", "sums", "top", "each", "slope", "whole"]
theorem sc_sums_of : FnScope ["many", "run", "rise", "start", "steps", "sums", "top", "each", "slope", "whole"] ["many", "run", "rise", "start"] (defScope s_sums_of) := ⟨rfl, rfl, rfl, by decide +kernel, rfl, by decide +kernel, by decide +kernel⟩
abbrev s_floor_sums : Stmt := top 20
abbrev N_floor_sums : List Str := ["many", "run", "rise", "start"]
theorem sc_floor_sums : FnScope ["many", "run", "rise", "start"] ["many", "run", "rise", "start"] (defScope s_floor_sums) := ⟨rfl, rfl, rfl, by decide +kernel, rfl, by decide +kernel, by decide +kernel⟩
abbrev s_Course___init__ : Stmt := inClass (top 22) 0
abbrev N_Course___init__ : List Str := ["self", "houses", "start", "rise", "run", "marks", "turned"]
theorem sc_Course___init__ : FnScope ["self", "houses", "start", "rise", "run", "marks", "turned"] ["self", "houses", "start", "rise", "run"] (defScope s_Course___init__) := ⟨rfl, rfl, rfl, by decide +kernel, rfl, by decide +kernel, by decide +kernel⟩
abbrev s_Course___eq__ : Stmt := inClass (top 22) 1
abbrev N_Course___eq__ : List Str := ["self", "other"]
theorem sc_Course___eq__ : FnScope ["self", "other"] ["self", "other"] (defScope s_Course___eq__) := ⟨rfl, rfl, rfl, by decide +kernel, rfl, by decide +kernel, by decide +kernel⟩
abbrev s_Course___call__ : Stmt := inClass (top 22) 2
abbrev N_Course___call__ : List Str := ["self", "k"]
theorem sc_Course___call__ : FnScope ["self", "k"] ["self", "k"] (defScope s_Course___call__) := ⟨rfl, rfl, rfl, by decide +kernel, rfl, by decide +kernel, by decide +kernel⟩
abbrev s_Course_marks : Stmt := inClass (top 22) 3
abbrev N_Course_marks : List Str := ["self"]
theorem sc_Course_marks : FnScope ["self"] ["self"] (defScope s_Course_marks) := ⟨rfl, rfl, rfl, by decide +kernel, rfl, by decide +kernel, by decide +kernel⟩
abbrev s_Course_spacing : Stmt := inClass (top 22) 4
abbrev N_Course_spacing : List Str := ["self"]
theorem sc_Course_spacing : FnScope ["self"] ["self"] (defScope s_Course_spacing) := ⟨rfl, rfl, rfl, by decide +kernel, rfl, by decide +kernel, by decide +kernel⟩
abbrev s_Course_turn : Stmt := inClass (top 22) 5
abbrev N_Course_turn : List Str := ["self"]
theorem sc_Course_turn : FnScope ["self"] ["self"] (defScope s_Course_turn) := ⟨rfl, rfl, rfl, by decide +kernel, rfl, by decide +kernel, by decide +kernel⟩
abbrev s_Course_counted : Stmt := inClass (top 22) 9
abbrev N_Course_counted : List Str := ["self", "house", "many"]
theorem sc_Course_counted : FnScope ["self", "house", "many"] ["self", "house", "many"] (defScope s_Course_counted) := ⟨rfl, rfl, rfl, by decide +kernel, rfl, by decide +kernel, by decide +kernel⟩
abbrev s_Course_count : Stmt := inClass (top 22) 10
abbrev N_Course_count : List Str := ["self", "house", "many"]
theorem sc_Course_count : FnScope ["self", "house", "many"] ["self", "house", "many"] (defScope s_Course_count) := ⟨rfl, rfl, rfl, by decide +kernel, rfl, by decide +kernel, by decide +kernel⟩
abbrev s_is_level : Stmt := top 24
abbrev N_is_level : List Str := ["one", "other"]
theorem sc_is_level : FnScope ["one", "other"] ["one", "other"] (defScope s_is_level) := ⟨rfl, rfl, rfl, by decide +kernel, rfl, by decide +kernel, by decide +kernel⟩
abbrev s_is_opposite : Stmt := top 25
abbrev N_is_opposite : List Str := ["one", "other"]
theorem sc_is_opposite : FnScope ["one", "other"] ["one", "other"] (defScope s_is_opposite) := ⟨rfl, rfl, rfl, by decide +kernel, rfl, by decide +kernel, by decide +kernel⟩
abbrev s_marks_below : Stmt := top 26
abbrev N_marks_below : List Str := ["course", "many", "modulus", "low", "high", "above"]
theorem sc_marks_below : FnScope ["course", "many", "modulus", "low", "high", "above"] ["course", "many", "modulus", "low", "high"] (defScope s_marks_below) := ⟨rfl, rfl, rfl, by decide +kernel, rfl, by decide +kernel, by decide +kernel⟩
abbrev s_sent_marks : Stmt := top 27
abbrev N_sent_marks : List Str := ["target", "source", "run", "houses", "turns", "rest"]
theorem sc_sent_marks : FnScope ["target", "source", "run", "houses", "turns", "rest"] ["target", "source"] (defScope s_sent_marks) := ⟨rfl, rfl, rfl, by decide +kernel, rfl, by decide +kernel, by decide +kernel⟩
abbrev s_halves : Stmt := top 28
abbrev N_halves : List Str := ["number", "houses", "first"]
theorem sc_halves : FnScope ["number", "houses", "first"] ["number", "houses"] (defScope s_halves) := ⟨rfl, rfl, rfl, by decide +kernel, rfl, by decide +kernel, by decide +kernel⟩
abbrev s_kept_marks : Stmt := top 29
abbrev N_kept_marks : List Str := ["target", "source", "run", "houses", "turns", "rest", "found", "house"]
theorem sc_kept_marks : FnScope ["target", "source", "run", "houses", "turns", "rest", "found", "house"] ["target", "source"] (defScope s_kept_marks) := ⟨rfl, rfl, rfl, by decide +kernel, rfl, by decide +kernel, by decide +kernel⟩
abbrev s_sent_below : Stmt := top 30
abbrev N_sent_below : List Str := ["target", "source", "many", "low", "high", "marks"]
theorem sc_sent_below : FnScope ["target", "source", "many", "low", "high", "marks"] ["target", "source", "many"] (defScope s_sent_below) := ⟨rfl, rfl, rfl, by decide +kernel, rfl, by decide +kernel, by decide +kernel⟩
abbrev s_Statement___init__ : Stmt := inClass (top 31) 0
abbrev N_Statement___init__ : List Str := ["self", "target", "source", "course"]
theorem sc_Statement___init__ : FnScope ["self", "target", "source", "course"] ["self", "target", "source"] (defScope s_Statement___init__) := ⟨rfl, rfl, rfl, by decide +kernel, rfl, by decide +kernel, by decide +kernel⟩
abbrev s_Statement_is_silent : Stmt := inClass (top 31) 3
abbrev N_Statement_is_silent : List Str := ["self"]
theorem sc_Statement_is_silent : FnScope ["self"] ["self"] (defScope s_Statement_is_silent) := ⟨rfl, rfl, rfl, by decide +kernel, rfl, by decide +kernel, by decide +kernel⟩
abbrev s_Statement_need_counted : Stmt := inClass (top 31) 2
abbrev N_Statement_need_counted : List Str := ["self"]
theorem sc_Statement_need_counted : FnScope ["self"] ["self"] (defScope s_Statement_need_counted) := ⟨rfl, rfl, rfl, by decide +kernel, rfl, by decide +kernel, by decide +kernel⟩
abbrev s_Statement_turn : Stmt := inClass (top 31) 5
abbrev N_Statement_turn : List Str := ["self", "one", "other"]
theorem sc_Statement_turn : FnScope ["self", "one", "other"] ["self"] (defScope s_Statement_turn) := ⟨rfl, rfl, rfl, by decide +kernel, rfl, by decide +kernel, by decide +kernel⟩
abbrev s_Statement_is_parallel : Stmt := inClass (top 31) 7
abbrev N_Statement_is_parallel : List Str := ["self"]
theorem sc_Statement_is_parallel : FnScope ["self"] ["self"] (defScope s_Statement_is_parallel) := ⟨rfl, rfl, rfl, by decide +kernel, rfl, by decide +kernel, by decide +kernel⟩
abbrev s_Statement_is_counted : Stmt := inClass (top 31) 8
abbrev N_Statement_is_counted : List Str := ["self"]
theorem sc_Statement_is_counted : FnScope ["self"] ["self"] (defScope s_Statement_is_counted) := ⟨rfl, rfl, rfl, by decide +kernel, rfl, by decide +kernel, by decide +kernel⟩
abbrev s_Statement_sent : Stmt := inClass (top 31) 9
abbrev N_Statement_sent : List Str := ["self", "many"]
theorem sc_Statement_sent : FnScope ["self", "many"] ["self", "many"] (defScope s_Statement_sent) := ⟨rfl, rfl, rfl, by decide +kernel, rfl, by decide +kernel, by decide +kernel⟩
abbrev s_Statement_sent_item : Stmt := inClass (top 31) 10
abbrev N_Statement_sent_item : List Str := ["self", "number", "turn", "each"]
theorem sc_Statement_sent_item : FnScope ["self", "number", "turn", "each"] ["self", "number"] (defScope s_Statement_sent_item) := ⟨rfl, rfl, rfl, by decide +kernel, rfl, by decide +kernel, by decide +kernel⟩
abbrev s_Statement_item_within : Stmt := inClass (top 31) 11
abbrev N_Statement_item_within : List Str := ["self", "turn", "each", "number", "wide", "at", "low", "high", "middle"]
theorem sc_Statement_item_within : FnScope ["self", "turn", "each", "number", "wide", "at", "low", "high", "middle"] ["self", "turn", "each", "number"] (defScope s_Statement_item_within) := ⟨rfl, rfl, rfl, by decide +kernel, rfl, by decide +kernel, by decide +kernel⟩
abbrev s_Statement_next_sent : Stmt := inClass (top 31) 12
abbrev N_Statement_next_sent : List Str := ["self", "k"]
theorem sc_Statement_next_sent : FnScope ["self", "k"] ["self", "k"] (defScope s_Statement_next_sent) := ⟨rfl, rfl, rfl, by decide +kernel, rfl, by decide +kernel, by decide +kernel⟩
abbrev s__law_pen : Stmt := top 33
abbrev N__law_pen : List Str := ["_law_script"]
theorem sc__law_pen : FnScope ["_law_script"] ["_law_script"] (defScope s__law_pen) := ⟨rfl, rfl, rfl, by decide +kernel, rfl, by decide +kernel, by decide +kernel⟩
abbrev s__law_draw : Stmt := top 34
abbrev N__law_draw : List Str := ["_law_pen_here", "_law_span", "_law_digit", "_law_at", "_law_cell", "_law_mash"]
theorem sc__law_draw : FnScope ["_law_pen_here", "_law_span", "_law_digit", "_law_at", "_law_cell", "_law_mash"] ["_law_pen_here", "_law_span"] (defScope s__law_draw) := ⟨rfl, rfl, rfl, by decide +kernel, rfl, by decide +kernel, by decide +kernel⟩
abbrev s__law_pick : Stmt := top 35
abbrev N__law_pick : List Str := ["_law_pen_here", "_law_menu"]
theorem sc__law_pick : FnScope ["_law_pen_here", "_law_menu"] ["_law_pen_here", "_law_menu"] (defScope s__law_pick) := ⟨rfl, rfl, rfl, by decide +kernel, rfl, by decide +kernel, by decide +kernel⟩
abbrev s__law_great : Stmt := top 36
abbrev N__law_great : List Str := ["_law_pen_here", "_law_figures", "_law_found", "_law_go"]
theorem sc__law_great : FnScope ["_law_pen_here", "_law_figures", "_law_found", "_law_go"] ["_law_pen_here", "_law_figures"] (defScope s__law_great) := ⟨rfl, rfl, rfl, by decide +kernel, rfl, by decide +kernel, by decide +kernel⟩
abbrev s__law_factor : Stmt := top 37
abbrev N__law_factor : List Str := ["_law_one", "_law_other", "_law_left", "_law_right"]
theorem sc__law_factor : FnScope ["_law_one", "_law_other", "_law_left", "_law_right"] ["_law_one", "_law_other"] (defScope s__law_factor) := ⟨rfl, rfl, rfl, by decide +kernel, rfl, by decide +kernel, by decide +kernel⟩
abbrev s__law_house : Stmt := top 38
abbrev N__law_house : List Str := ["_law_line_here", "_law_k"]
theorem sc__law_house : FnScope ["_law_line_here", "_law_k"] ["_law_line_here", "_law_k"] (defScope s__law_house) := ⟨rfl, rfl, rfl, by decide +kernel, rfl, by decide +kernel, by decide +kernel⟩
abbrev s__law_course : Stmt := top 39
abbrev N__law_course : List Str := ["_law_line_here"]
theorem sc__law_course : FnScope ["_law_line_here"] ["_law_line_here"] (defScope s__law_course) := ⟨rfl, rfl, rfl, by decide +kernel, rfl, by decide +kernel, by decide +kernel⟩
abbrev s__law_told : Stmt := top 40
abbrev N__law_told : List Str := ["_law_call_here", "_law_told_here", "e"]
theorem sc__law_told : FnScope ["_law_call_here", "_law_told_here", "e"] ["_law_call_here"] (defScope s__law_told) := ⟨rfl, rfl, rfl, by decide +kernel, rfl, by decide +kernel, by decide +kernel⟩
abbrev s__law_sent : Stmt := top 41
abbrev N__law_sent : List Str := ["_law_one", "_law_other", "_law_k"]
theorem sc__law_sent : FnScope ["_law_one", "_law_other", "_law_k"] ["_law_one", "_law_other", "_law_k"] (defScope s__law_sent) := ⟨rfl, rfl, rfl, by decide +kernel, rfl, by decide +kernel, by decide +kernel⟩
abbrev s__law_line : Stmt := top 42
abbrev N__law_line : List Str := ["_law_pen_here", "_law_houses", "_law_far", "_law_run", "_law_rise", "_law_part"]
theorem sc__law_line : FnScope ["_law_pen_here", "_law_houses", "_law_far", "_law_run", "_law_rise", "_law_part"] ["_law_pen_here", "_law_houses", "_law_far"] (defScope s__law_line) := ⟨rfl, rfl, rfl, by decide +kernel, rfl, by decide +kernel, by decide +kernel⟩
abbrev s__law_lines : Stmt := top 43
abbrev N__law_lines : List Str := ["_law_pen_here", "_law_far", "_law_houses", "_law_path", "_law_one", "_law_marks", "_law_start", "_law_still"]
theorem sc__law_lines : FnScope ["_law_pen_here", "_law_far", "_law_houses", "_law_path", "_law_one", "_law_marks", "_law_start", "_law_still"] ["_law_pen_here", "_law_far"] (defScope s__law_lines) := ⟨rfl, rfl, rfl, by decide +kernel, rfl, by decide +kernel, by decide +kernel⟩
abbrev s__law_step_right : Stmt := top 44
abbrev N__law_step_right : List Str := ["_law_pen_here", "_law_statement", "_law_one", "_law_other", "_law_k", "_law_many", "_law_more", "_law_item", "_law_number", "_law_found", "_law_turn", "_law_times", "_law_grown"]
theorem sc__law_step_right : FnScope ["_law_pen_here", "_law_statement", "_law_one", "_law_other", "_law_k", "_law_many", "_law_more", "_law_item", "_law_number", "_law_found", "_law_turn", "_law_times", "_law_grown"] ["_law_pen_here", "_law_statement", "_law_one", "_law_other", "_law_k"] (defScope s__law_step_right) := ⟨rfl, rfl, rfl, by decide +kernel, rfl, by decide +kernel, by decide +kernel⟩
abbrev s__law_near_right : Stmt := top 45
abbrev N__law_near_right : List Str := ["_law_statement", "_law_one", "_law_other", "_law_many", "_law_k"]
theorem sc__law_near_right : FnScope ["_law_statement", "_law_one", "_law_other", "_law_many", "_law_k"] ["_law_statement", "_law_one", "_law_other"] (defScope s__law_near_right) := ⟨rfl, rfl, rfl, by decide +kernel, rfl, by decide +kernel, by decide +kernel⟩
abbrev s__law_call : Stmt := top 46
abbrev N__law_call : List Str := ["_law_statement", "_law_which", "_law_k"]
theorem sc__law_call : FnScope ["_law_statement", "_law_which", "_law_k"] ["_law_statement", "_law_which", "_law_k"] (defScope s__law_call) := ⟨rfl, rfl, rfl, by decide +kernel, rfl, by decide +kernel, by decide +kernel⟩
abbrev s__law_refused_right : Stmt := top 47
abbrev N__law_refused_right : List Str := ["_law_pen_here", "_law_houses", "_law_run", "_law_one", "_law_path", "_law_other", "_law_k", "_law_statement", "_law_strange", "_law_which"]
theorem sc__law_refused_right : FnScope ["_law_pen_here", "_law_houses", "_law_run", "_law_one", "_law_path", "_law_other", "_law_k", "_law_statement", "_law_strange", "_law_which"] ["_law_pen_here"] (defScope s__law_refused_right) := ⟨rfl, rfl, rfl, by decide +kernel, rfl, by decide +kernel, by decide +kernel⟩
abbrev s_law : Stmt := top 48
abbrev N_law : List Str := ["_law_script", "_law_pen_here", "_law_lap", "_law_far", "_law_one", "_law_other", "_law_statement", "_law_k"]
theorem sc_law : FnScope ["_law_script", "_law_pen_here", "_law_lap", "_law_far", "_law_one", "_law_other", "_law_statement", "_law_k"] ["_law_script"] (defScope s_law) := ⟨rfl, rfl, rfl, by decide +kernel, rfl, by decide +kernel, by decide +kernel⟩
abbrev PR : Program := PySem.Challenge.pw_dealtsums_k25_items_sent_below_a_length
abbrev s_BadValue___init__ : Stmt := inClass (top 3) 0
abbrev s_Unlike___init__ : Stmt := inClass (top 4) 0
set_option genInjectivity false in
structure Tx (w : World) (K : PySem.W.Frag) (mg : Str → Option Value) where
  C_BadValue : Addr
  f_BadValue___init__ : Addr
  fd_BadValue___init__ : FuncData
  gC_BadValue : mg "BadValue" = some (.ref C_BadValue)
  X_BadValue : XOne PR w K mg C_BadValue f_BadValue___init__ fd_BadValue___init__ s_BadValue___init__ "BadValue.__init__" "value"
  bX_BadValue : Binds K fd_BadValue___init__ ["self", "value"] []
  xf_BadValue : XfC K C_BadValue
  em_BadValue : PySem.W.exmOne K (.ref C_BadValue) (.ref C_BadValue) = some true
  C_Unlike : Addr
  f_Unlike___init__ : Addr
  fd_Unlike___init__ : FuncData
  gC_Unlike : mg "Unlike" = some (.ref C_Unlike)
  X_Unlike : XOne PR w K mg C_Unlike f_Unlike___init__ fd_Unlike___init__ s_Unlike___init__ "Unlike.__init__" "one"
  bX_Unlike : Binds K fd_Unlike___init__ ["self", "one", "other"] []
  xf_Unlike : XfC K C_Unlike
  em_Unlike : PySem.W.exmOne K (.ref C_Unlike) (.ref C_Unlike) = some true
  C_Course : Addr
  cl_Course : Cls K C_Course
  gC_Course : mg "Course" = some (.ref C_Course)
  n_Course_houses : NoAttr K C_Course "houses"
  n_Course_run : NoAttr K C_Course "run"
  n_Course_start : NoAttr K C_Course "start"
  n_Course_rise : NoAttr K C_Course "rise"
  C_Statement : Addr
  cl_Statement : Cls K C_Statement
  gC_Statement : mg "Statement" = some (.ref C_Statement)
  n_Statement_target : NoAttr K C_Statement "target"
  n_Statement_source : NoAttr K C_Statement "source"
  f_is_integer : Addr
  fd_is_integer : FuncData
  F_is_integer : Fun K "is_integer" "is_integer" s_is_integer f_is_integer fd_is_integer
  b_is_integer : Binds K fd_is_integer ["value"] []
  g_is_integer : mg "is_integer" = some (.ref f_is_integer)
  f_is_whole : Addr
  fd_is_whole : FuncData
  F_is_whole : Fun K "is_whole" "is_whole" s_is_whole f_is_whole fd_is_whole
  b_is_whole : Binds K fd_is_whole ["value"] []
  g_is_whole : mg "is_whole" = some (.ref f_is_whole)
  f_need_integer : Addr
  fd_need_integer : FuncData
  F_need_integer : Fun K "need_integer" "need_integer" s_need_integer f_need_integer fd_need_integer
  b_need_integer : Binds K fd_need_integer ["value"] []
  g_need_integer : mg "need_integer" = some (.ref f_need_integer)
  f_need_whole : Addr
  fd_need_whole : FuncData
  F_need_whole : Fun K "need_whole" "need_whole" s_need_whole f_need_whole fd_need_whole
  b_need_whole : Binds K fd_need_whole ["value"] []
  g_need_whole : mg "need_whole" = some (.ref f_need_whole)
  f_need_positive : Addr
  fd_need_positive : FuncData
  F_need_positive : Fun K "need_positive" "need_positive" s_need_positive f_need_positive fd_need_positive
  b_need_positive : Binds K fd_need_positive ["value"] []
  g_need_positive : mg "need_positive" = some (.ref f_need_positive)
  f_need_below : Addr
  fd_need_below : FuncData
  F_need_below : Fun K "need_below" "need_below" s_need_below f_need_below fd_need_below
  b_need_below : Binds K fd_need_below ["value", "bound"] []
  g_need_below : mg "need_below" = some (.ref f_need_below)
  f_common_factor : Addr
  fd_common_factor : FuncData
  F_common_factor : Fun K "common_factor" "common_factor" s_common_factor f_common_factor fd_common_factor
  b_common_factor : Binds K fd_common_factor ["one", "other"] []
  g_common_factor : mg "common_factor" = some (.ref f_common_factor)
  f_total_of : Addr
  fd_total_of : FuncData
  F_total_of : Fun K "total_of" "total_of" s_total_of f_total_of fd_total_of
  b_total_of : Binds K fd_total_of ["many", "run", "rise", "start"] []
  g_total_of : mg "total_of" = some (.ref f_total_of)
  f_count_in : Addr
  fd_count_in : FuncData
  F_count_in : Fun K "count_in" "count_in" s_count_in f_count_in fd_count_in
  b_count_in : Binds K fd_count_in ["many", "run", "rise", "start", "length"] []
  g_count_in : mg "count_in" = some (.ref f_count_in)
  f_folded : Addr
  fd_folded : FuncData
  F_folded : Fun K "folded" "folded" s_folded f_folded fd_folded
  b_folded : Binds K fd_folded ["many", "top", "inner"] []
  g_folded : mg "folded" = some (.ref f_folded)
  f_raised : Addr
  fd_raised : FuncData
  F_raised : Fun K "raised" "raised" s_raised f_raised fd_raised
  b_raised : Binds K fd_raised ["many", "rise", "start", "sums"] []
  g_raised : mg "raised" = some (.ref f_raised)
  f_sums_of : Addr
  fd_sums_of : FuncData
  F_sums_of : Fun K "sums_of" "sums_of" s_sums_of f_sums_of fd_sums_of
  b_sums_of : Binds K fd_sums_of ["many", "run", "rise", "start"] []
  g_sums_of : mg "sums_of" = some (.ref f_sums_of)
  f_floor_sums : Addr
  fd_floor_sums : FuncData
  F_floor_sums : Fun K "floor_sums" "floor_sums" s_floor_sums f_floor_sums fd_floor_sums
  b_floor_sums : Binds K fd_floor_sums ["many", "run", "rise", "start"] []
  g_floor_sums : mg "floor_sums" = some (.ref f_floor_sums)
  f_Course___init__ : Addr
  fd_Course___init__ : FuncData
  F_Course___init__ : Fun K "__init__" "Course.__init__" s_Course___init__ f_Course___init__ fd_Course___init__
  b_Course___init__ : Binds K fd_Course___init__ ["self", "houses", "start", "rise", "run"] []
  M_Course : Mk K C_Course f_Course___init__
  f_Course___eq__ : Addr
  fd_Course___eq__ : FuncData
  F_Course___eq__ : Fun K "__eq__" "Course.__eq__" s_Course___eq__ f_Course___eq__ fd_Course___eq__
  b_Course___eq__ : Binds K fd_Course___eq__ ["self", "other"] []
  m_Course___eq__ : Meth K C_Course "__eq__" f_Course___eq__
  f_Course___call__ : Addr
  fd_Course___call__ : FuncData
  F_Course___call__ : Fun K "__call__" "Course.__call__" s_Course___call__ f_Course___call__ fd_Course___call__
  b_Course___call__ : Binds K fd_Course___call__ ["self", "k"] []
  m_Course___call__ : Meth K C_Course "__call__" f_Course___call__
  f_Course_marks : Addr
  fd_Course_marks : FuncData
  F_Course_marks : Fun K "marks" "Course.marks" s_Course_marks f_Course_marks fd_Course_marks
  b_Course_marks : Binds K fd_Course_marks ["self"] []
  m_Course_marks : Meth K C_Course "marks" f_Course_marks
  f_Course_spacing : Addr
  fd_Course_spacing : FuncData
  F_Course_spacing : Fun K "spacing" "Course.spacing" s_Course_spacing f_Course_spacing fd_Course_spacing
  b_Course_spacing : Binds K fd_Course_spacing ["self"] []
  m_Course_spacing : Meth K C_Course "spacing" f_Course_spacing
  f_Course_turn : Addr
  fd_Course_turn : FuncData
  F_Course_turn : Fun K "turn" "Course.turn" s_Course_turn f_Course_turn fd_Course_turn
  b_Course_turn : Binds K fd_Course_turn ["self"] []
  m_Course_turn : Meth K C_Course "turn" f_Course_turn
  f_Course_counted : Addr
  fd_Course_counted : FuncData
  F_Course_counted : Fun K "counted" "Course.counted" s_Course_counted f_Course_counted fd_Course_counted
  b_Course_counted : Binds K fd_Course_counted ["self", "house", "many"] []
  m_Course_counted : Meth K C_Course "counted" f_Course_counted
  f_Course_count : Addr
  fd_Course_count : FuncData
  F_Course_count : Fun K "count" "Course.count" s_Course_count f_Course_count fd_Course_count
  b_Course_count : Binds K fd_Course_count ["self", "house", "many"] []
  m_Course_count : Meth K C_Course "count" f_Course_count
  f_is_level : Addr
  fd_is_level : FuncData
  F_is_level : Fun K "is_level" "is_level" s_is_level f_is_level fd_is_level
  b_is_level : Binds K fd_is_level ["one", "other"] []
  g_is_level : mg "is_level" = some (.ref f_is_level)
  f_is_opposite : Addr
  fd_is_opposite : FuncData
  F_is_opposite : Fun K "is_opposite" "is_opposite" s_is_opposite f_is_opposite fd_is_opposite
  b_is_opposite : Binds K fd_is_opposite ["one", "other"] []
  g_is_opposite : mg "is_opposite" = some (.ref f_is_opposite)
  f_marks_below : Addr
  fd_marks_below : FuncData
  F_marks_below : Fun K "marks_below" "marks_below" s_marks_below f_marks_below fd_marks_below
  b_marks_below : Binds K fd_marks_below ["course", "many", "modulus", "low", "high"] []
  g_marks_below : mg "marks_below" = some (.ref f_marks_below)
  f_sent_marks : Addr
  fd_sent_marks : FuncData
  F_sent_marks : Fun K "sent_marks" "sent_marks" s_sent_marks f_sent_marks fd_sent_marks
  b_sent_marks : Binds K fd_sent_marks ["target", "source"] []
  g_sent_marks : mg "sent_marks" = some (.ref f_sent_marks)
  f_halves : Addr
  fd_halves : FuncData
  F_halves : Fun K "halves" "halves" s_halves f_halves fd_halves
  b_halves : Binds K fd_halves ["number", "houses"] []
  g_halves : mg "halves" = some (.ref f_halves)
  f_kept_marks : Addr
  fd_kept_marks : FuncData
  F_kept_marks : Fun K "kept_marks" "kept_marks" s_kept_marks f_kept_marks fd_kept_marks
  b_kept_marks : Binds K fd_kept_marks ["target", "source"] []
  g_kept_marks : mg "kept_marks" = some (.ref f_kept_marks)
  f_sent_below : Addr
  fd_sent_below : FuncData
  F_sent_below : Fun K "sent_below" "sent_below" s_sent_below f_sent_below fd_sent_below
  b_sent_below : Binds K fd_sent_below ["target", "source", "many"] []
  g_sent_below : mg "sent_below" = some (.ref f_sent_below)
  f_Statement___init__ : Addr
  fd_Statement___init__ : FuncData
  F_Statement___init__ : Fun K "__init__" "Statement.__init__" s_Statement___init__ f_Statement___init__ fd_Statement___init__
  b_Statement___init__ : Binds K fd_Statement___init__ ["self", "target", "source"] []
  M_Statement : Mk K C_Statement f_Statement___init__
  f_Statement_is_silent : Addr
  fd_Statement_is_silent : FuncData
  F_Statement_is_silent : Fun K "is_silent" "Statement.is_silent" s_Statement_is_silent f_Statement_is_silent fd_Statement_is_silent
  b_Statement_is_silent : Binds K fd_Statement_is_silent ["self"] []
  m_Statement_is_silent : Meth K C_Statement "is_silent" f_Statement_is_silent
  f_Statement_need_counted : Addr
  fd_Statement_need_counted : FuncData
  F_Statement_need_counted : Fun K "need_counted" "Statement.need_counted" s_Statement_need_counted f_Statement_need_counted fd_Statement_need_counted
  b_Statement_need_counted : Binds K fd_Statement_need_counted ["self"] []
  m_Statement_need_counted : Meth K C_Statement "need_counted" f_Statement_need_counted
  f_Statement_turn : Addr
  fd_Statement_turn : FuncData
  F_Statement_turn : Fun K "turn" "Statement.turn" s_Statement_turn f_Statement_turn fd_Statement_turn
  b_Statement_turn : Binds K fd_Statement_turn ["self"] []
  m_Statement_turn : Meth K C_Statement "turn" f_Statement_turn
  f_Statement_is_parallel : Addr
  fd_Statement_is_parallel : FuncData
  F_Statement_is_parallel : Fun K "is_parallel" "Statement.is_parallel" s_Statement_is_parallel f_Statement_is_parallel fd_Statement_is_parallel
  b_Statement_is_parallel : Binds K fd_Statement_is_parallel ["self"] []
  m_Statement_is_parallel : Meth K C_Statement "is_parallel" f_Statement_is_parallel
  f_Statement_is_counted : Addr
  fd_Statement_is_counted : FuncData
  F_Statement_is_counted : Fun K "is_counted" "Statement.is_counted" s_Statement_is_counted f_Statement_is_counted fd_Statement_is_counted
  b_Statement_is_counted : Binds K fd_Statement_is_counted ["self"] []
  m_Statement_is_counted : Meth K C_Statement "is_counted" f_Statement_is_counted
  f_Statement_sent : Addr
  fd_Statement_sent : FuncData
  F_Statement_sent : Fun K "sent" "Statement.sent" s_Statement_sent f_Statement_sent fd_Statement_sent
  b_Statement_sent : Binds K fd_Statement_sent ["self", "many"] []
  m_Statement_sent : Meth K C_Statement "sent" f_Statement_sent
  f_Statement_sent_item : Addr
  fd_Statement_sent_item : FuncData
  F_Statement_sent_item : Fun K "sent_item" "Statement.sent_item" s_Statement_sent_item f_Statement_sent_item fd_Statement_sent_item
  b_Statement_sent_item : Binds K fd_Statement_sent_item ["self", "number"] []
  m_Statement_sent_item : Meth K C_Statement "sent_item" f_Statement_sent_item
  f_Statement_item_within : Addr
  fd_Statement_item_within : FuncData
  F_Statement_item_within : Fun K "item_within" "Statement.item_within" s_Statement_item_within f_Statement_item_within fd_Statement_item_within
  b_Statement_item_within : Binds K fd_Statement_item_within ["self", "turn", "each", "number"] []
  m_Statement_item_within : Meth K C_Statement "item_within" f_Statement_item_within
  f_Statement_next_sent : Addr
  fd_Statement_next_sent : FuncData
  F_Statement_next_sent : Fun K "next_sent" "Statement.next_sent" s_Statement_next_sent f_Statement_next_sent fd_Statement_next_sent
  b_Statement_next_sent : Binds K fd_Statement_next_sent ["self", "k"] []
  m_Statement_next_sent : Meth K C_Statement "next_sent" f_Statement_next_sent
  f__law_pen : Addr
  fd__law_pen : FuncData
  F__law_pen : Fun K "_law_pen" "_law_pen" s__law_pen f__law_pen fd__law_pen
  b__law_pen : Binds K fd__law_pen ["_law_script"] []
  g__law_pen : mg "_law_pen" = some (.ref f__law_pen)
  f__law_draw : Addr
  fd__law_draw : FuncData
  F__law_draw : Fun K "_law_draw" "_law_draw" s__law_draw f__law_draw fd__law_draw
  b__law_draw : Binds K fd__law_draw ["_law_pen_here", "_law_span"] []
  g__law_draw : mg "_law_draw" = some (.ref f__law_draw)
  f__law_pick : Addr
  fd__law_pick : FuncData
  F__law_pick : Fun K "_law_pick" "_law_pick" s__law_pick f__law_pick fd__law_pick
  b__law_pick : Binds K fd__law_pick ["_law_pen_here", "_law_menu"] []
  g__law_pick : mg "_law_pick" = some (.ref f__law_pick)
  f__law_great : Addr
  fd__law_great : FuncData
  F__law_great : Fun K "_law_great" "_law_great" s__law_great f__law_great fd__law_great
  b__law_great : Binds K fd__law_great ["_law_pen_here", "_law_figures"] []
  g__law_great : mg "_law_great" = some (.ref f__law_great)
  f__law_factor : Addr
  fd__law_factor : FuncData
  F__law_factor : Fun K "_law_factor" "_law_factor" s__law_factor f__law_factor fd__law_factor
  b__law_factor : Binds K fd__law_factor ["_law_one", "_law_other"] []
  g__law_factor : mg "_law_factor" = some (.ref f__law_factor)
  f__law_house : Addr
  fd__law_house : FuncData
  F__law_house : Fun K "_law_house" "_law_house" s__law_house f__law_house fd__law_house
  b__law_house : Binds K fd__law_house ["_law_line_here", "_law_k"] []
  g__law_house : mg "_law_house" = some (.ref f__law_house)
  f__law_course : Addr
  fd__law_course : FuncData
  F__law_course : Fun K "_law_course" "_law_course" s__law_course f__law_course fd__law_course
  b__law_course : Binds K fd__law_course ["_law_line_here"] []
  g__law_course : mg "_law_course" = some (.ref f__law_course)
  f__law_told : Addr
  fd__law_told : FuncData
  F__law_told : Fun K "_law_told" "_law_told" s__law_told f__law_told fd__law_told
  b__law_told : Binds K fd__law_told ["_law_call_here"] []
  g__law_told : mg "_law_told" = some (.ref f__law_told)
  f__law_sent : Addr
  fd__law_sent : FuncData
  F__law_sent : Fun K "_law_sent" "_law_sent" s__law_sent f__law_sent fd__law_sent
  b__law_sent : Binds K fd__law_sent ["_law_one", "_law_other", "_law_k"] []
  g__law_sent : mg "_law_sent" = some (.ref f__law_sent)
  f__law_line : Addr
  fd__law_line : FuncData
  F__law_line : Fun K "_law_line" "_law_line" s__law_line f__law_line fd__law_line
  b__law_line : Binds K fd__law_line ["_law_pen_here", "_law_houses", "_law_far"] []
  g__law_line : mg "_law_line" = some (.ref f__law_line)
  f__law_lines : Addr
  fd__law_lines : FuncData
  F__law_lines : Fun K "_law_lines" "_law_lines" s__law_lines f__law_lines fd__law_lines
  b__law_lines : Binds K fd__law_lines ["_law_pen_here", "_law_far"] []
  g__law_lines : mg "_law_lines" = some (.ref f__law_lines)
  f__law_step_right : Addr
  fd__law_step_right : FuncData
  F__law_step_right : Fun K "_law_step_right" "_law_step_right" s__law_step_right f__law_step_right fd__law_step_right
  b__law_step_right : Binds K fd__law_step_right ["_law_pen_here", "_law_statement", "_law_one", "_law_other", "_law_k"] []
  g__law_step_right : mg "_law_step_right" = some (.ref f__law_step_right)
  f__law_near_right : Addr
  fd__law_near_right : FuncData
  F__law_near_right : Fun K "_law_near_right" "_law_near_right" s__law_near_right f__law_near_right fd__law_near_right
  b__law_near_right : Binds K fd__law_near_right ["_law_statement", "_law_one", "_law_other"] []
  g__law_near_right : mg "_law_near_right" = some (.ref f__law_near_right)
  f__law_call : Addr
  fd__law_call : FuncData
  F__law_call : Fun K "_law_call" "_law_call" s__law_call f__law_call fd__law_call
  b__law_call : Binds K fd__law_call ["_law_statement", "_law_which", "_law_k"] []
  g__law_call : mg "_law_call" = some (.ref f__law_call)
  f__law_refused_right : Addr
  fd__law_refused_right : FuncData
  F__law_refused_right : Fun K "_law_refused_right" "_law_refused_right" s__law_refused_right f__law_refused_right fd__law_refused_right
  b__law_refused_right : Binds K fd__law_refused_right ["_law_pen_here"] []
  g__law_refused_right : mg "_law_refused_right" = some (.ref f__law_refused_right)
  f_law : Addr
  fd_law : FuncData
  F_law : Fun K "law" "law" s_law f_law fd_law
  b_law : Binds K fd_law ["_law_script"] []
  g_law : mg "law" = some (.ref f_law)
  c__law_refused_right : Addr
  P__law_refused_right : Addr
  FC__law_refused_right : ∃ oc od kV doc pm an ct osl, fd__law_refused_right = PySem.W.fnOf "_law_refused_right" "_law_refused_right" (defArgs s__law_refused_right) (defBody s__law_refused_right) (defScope s__law_refused_right) .none kV doc pm an (.ref c__law_refused_right) ct ∧ K.lookup f__law_refused_right = some ⟨oc, od, .func (PySem.W.fnOf "_law_refused_right" "_law_refused_right" (defArgs s__law_refused_right) (defBody s__law_refused_right) (defScope s__law_refused_right) .none kV doc pm an (.ref c__law_refused_right) ct), osl⟩ ∧ PySem.W.codeIn K (.ref c__law_refused_right) "_law_refused_right" = true
  z_abs : mg "abs" = none
  z_bool : mg "bool" = none
  z_divmod : mg "divmod" = none
  z_int : mg "int" = none
  z_isinstance : mg "isinstance" = none
  z_len : mg "len" = none
  z_list : mg "list" = none
  z_max : mg "max" = none
  z_min : mg "min" = none
  z_range : mg "range" = none
  z_sum : mg "sum" = none
  C_NotTold : Addr
  gC_NotTold : mg "NotTold" = some (.ref C_NotTold)
  x0_NotTold : PySem.W.excIn K C_NotTold [.type "ValueError", .type "Exception", .type "BaseException", .type "object"] "ValueError.__new__" = true
  k0_NotTold : PySem.W.keepIn K (.ref C_NotTold) = true
  b0_NotTold : PySem.W.subIn K (.ref C_NotTold) (.type "BaseException") = some true
  t0_NotTold : PySem.W.typeIn K (.ref C_NotTold) = some (.type "type")
  em_NotTold : PySem.W.exmOne K (.ref C_NotTold) (.ref C_NotTold) = some true
  xn2_Unlike : PySem.W.findIn K (.ref C_Unlike) "other" = some none
  en_BadValue_Unlike : PySem.W.exmOne K (.ref C_BadValue) (.ref C_Unlike) = some false
  en_BadValue_NotTold : PySem.W.exmOne K (.ref C_BadValue) (.ref C_NotTold) = some false
  en_NotTold_Unlike : PySem.W.exmOne K (.ref C_NotTold) (.ref C_Unlike) = some false
  oc_Course : OwnC K C_Course
  ic_Course : IsC K C_Course
  ne_Course : PySem.W.findIn K (.ref C_Course) "__ne__" = some (some (.builtin "object.__ne__"))
  mo_Course : PySem.W.mroIn K C_Course (.type "object") = some true
  oc_Statement : OwnC K C_Statement
  ic_Statement : IsC K C_Statement
  ne_Statement : PySem.W.findIn K (.ref C_Statement) "__ne__" = some (some (.builtin "object.__ne__"))
  mo_Statement : PySem.W.mroIn K C_Statement (.type "object") = some true
theorem fl_Course_houses (a0 a1 a2 a3 : Tr) : List.lookup ("houses" : Str) [(("houses" : Str), a0), (("run" : Str), a1), (("start" : Str), a2), (("rise" : Str), a3)] = some a0 := rfl
theorem pt_Course_houses (a0 : Tr) : putT ("houses" : Str) a0 [] = [(("houses" : Str), a0)] := rfl
theorem fl_Course_run (a0 a1 a2 a3 : Tr) : List.lookup ("run" : Str) [(("houses" : Str), a0), (("run" : Str), a1), (("start" : Str), a2), (("rise" : Str), a3)] = some a1 := rfl
theorem pt_Course_run (a0 a1 : Tr) : putT ("run" : Str) a1 [(("houses" : Str), a0)] = [(("houses" : Str), a0), (("run" : Str), a1)] := rfl
theorem fq_Course_1_0 (a0 : Tr) : List.lookup ("houses" : Str) [(("houses" : Str), a0)] = some a0 := rfl
theorem fl_Course_start (a0 a1 a2 a3 : Tr) : List.lookup ("start" : Str) [(("houses" : Str), a0), (("run" : Str), a1), (("start" : Str), a2), (("rise" : Str), a3)] = some a2 := rfl
theorem pt_Course_start (a0 a1 a2 : Tr) : putT ("start" : Str) a2 [(("houses" : Str), a0), (("run" : Str), a1)] = [(("houses" : Str), a0), (("run" : Str), a1), (("start" : Str), a2)] := rfl
theorem fq_Course_2_0 (a0 a1 : Tr) : List.lookup ("houses" : Str) [(("houses" : Str), a0), (("run" : Str), a1)] = some a0 := rfl
theorem fq_Course_2_1 (a0 a1 : Tr) : List.lookup ("run" : Str) [(("houses" : Str), a0), (("run" : Str), a1)] = some a1 := rfl
theorem fl_Course_rise (a0 a1 a2 a3 : Tr) : List.lookup ("rise" : Str) [(("houses" : Str), a0), (("run" : Str), a1), (("start" : Str), a2), (("rise" : Str), a3)] = some a3 := rfl
theorem pt_Course_rise (a0 a1 a2 a3 : Tr) : putT ("rise" : Str) a3 [(("houses" : Str), a0), (("run" : Str), a1), (("start" : Str), a2)] = [(("houses" : Str), a0), (("run" : Str), a1), (("start" : Str), a2), (("rise" : Str), a3)] := rfl
theorem fq_Course_3_0 (a0 a1 a2 : Tr) : List.lookup ("houses" : Str) [(("houses" : Str), a0), (("run" : Str), a1), (("start" : Str), a2)] = some a0 := rfl
theorem fq_Course_3_1 (a0 a1 a2 : Tr) : List.lookup ("run" : Str) [(("houses" : Str), a0), (("run" : Str), a1), (("start" : Str), a2)] = some a1 := rfl
theorem fq_Course_3_2 (a0 a1 a2 : Tr) : List.lookup ("start" : Str) [(("houses" : Str), a0), (("run" : Str), a1), (("start" : Str), a2)] = some a2 := rfl
theorem nl_Course_marks (a0 a1 a2 a3 : Tr) : List.lookup ("marks" : Str) [(("houses" : Str), a0), (("run" : Str), a1), (("start" : Str), a2), (("rise" : Str), a3)] = none := rfl
theorem nl_Course_spacing (a0 a1 a2 a3 : Tr) : List.lookup ("spacing" : Str) [(("houses" : Str), a0), (("run" : Str), a1), (("start" : Str), a2), (("rise" : Str), a3)] = none := rfl
theorem nl_Course_turn (a0 a1 a2 a3 : Tr) : List.lookup ("turn" : Str) [(("houses" : Str), a0), (("run" : Str), a1), (("start" : Str), a2), (("rise" : Str), a3)] = none := rfl
theorem nl_Course_counted (a0 a1 a2 a3 : Tr) : List.lookup ("counted" : Str) [(("houses" : Str), a0), (("run" : Str), a1), (("start" : Str), a2), (("rise" : Str), a3)] = none := rfl
theorem nl_Course_count (a0 a1 a2 a3 : Tr) : List.lookup ("count" : Str) [(("houses" : Str), a0), (("run" : Str), a1), (("start" : Str), a2), (("rise" : Str), a3)] = none := rfl
theorem fl_Statement_target (a0 a1 : Tr) : List.lookup ("target" : Str) [(("target" : Str), a0), (("source" : Str), a1)] = some a0 := rfl
theorem pt_Statement_target (a0 : Tr) : putT ("target" : Str) a0 [] = [(("target" : Str), a0)] := rfl
theorem fl_Statement_source (a0 a1 : Tr) : List.lookup ("source" : Str) [(("target" : Str), a0), (("source" : Str), a1)] = some a1 := rfl
theorem pt_Statement_source (a0 a1 : Tr) : putT ("source" : Str) a1 [(("target" : Str), a0)] = [(("target" : Str), a0), (("source" : Str), a1)] := rfl
theorem fq_Statement_1_0 (a0 : Tr) : List.lookup ("target" : Str) [(("target" : Str), a0)] = some a0 := rfl
theorem nl_Statement_is_silent (a0 a1 : Tr) : List.lookup ("is_silent" : Str) [(("target" : Str), a0), (("source" : Str), a1)] = none := rfl
theorem nl_Statement_need_counted (a0 a1 : Tr) : List.lookup ("need_counted" : Str) [(("target" : Str), a0), (("source" : Str), a1)] = none := rfl
theorem nl_Statement_turn (a0 a1 : Tr) : List.lookup ("turn" : Str) [(("target" : Str), a0), (("source" : Str), a1)] = none := rfl
theorem nl_Statement_is_parallel (a0 a1 : Tr) : List.lookup ("is_parallel" : Str) [(("target" : Str), a0), (("source" : Str), a1)] = none := rfl
theorem nl_Statement_is_counted (a0 a1 : Tr) : List.lookup ("is_counted" : Str) [(("target" : Str), a0), (("source" : Str), a1)] = none := rfl
theorem nl_Statement_sent (a0 a1 : Tr) : List.lookup ("sent" : Str) [(("target" : Str), a0), (("source" : Str), a1)] = none := rfl
theorem nl_Statement_sent_item (a0 a1 : Tr) : List.lookup ("sent_item" : Str) [(("target" : Str), a0), (("source" : Str), a1)] = none := rfl
theorem nl_Statement_item_within (a0 a1 : Tr) : List.lookup ("item_within" : Str) [(("target" : Str), a0), (("source" : Str), a1)] = none := rfl
theorem nl_Statement_next_sent (a0 a1 : Tr) : List.lookup ("next_sent" : Str) [(("target" : Str), a0), (("source" : Str), a1)] = none := rfl
abbrev gK {w : World} {K : PySem.W.Frag} {mg : Str → Option Value} (T : Tx w K mg) : Gb := ⟨K, [(T.P__law_refused_right, "_law_refused_right.<locals>.<lambda>")], ("cells", "at", "left"), false⟩
end K25
namespace K25
open PySem L2 DS VL MT
section
variable {P : Program} {w : World} {K : PySem.W.Frag} {mg : Str → Option Value} {base : Heap}
/-! checks, with what they raise -/
def isIntT : Tr → Option Bool
  | .int _ => some true
  | .bl _ => some false
  | .non => some false
  | .str _ => some false
  | .tup _ => some false
  | .lst _ => some false
  | .dct _ => some false
  | .ins _ _ => some false
  | _ => none
def isWhT : Tr → Option Bool
  | .int i => some (decide (0 ≤ i))
  | t => isIntT t
def okQ (b : Option Bool) (y z : Prop) : Prop := match b with
  | some true => y
  | some false => z
  | none => False
def sp_is_integer (T : Tx w K mg) : VSp
  | [t], n, Q, _ => ∃ b, isIntT t = some b ∧ Q (.bl b) n
  | _, _, _, _ => False
def sp_is_whole (T : Tx w K mg) : VSp
  | [t], n, Q, _ => ∃ b, isWhT t = some b ∧ Q (.bl b) n
  | _, _, _, _ => False
def sp_need_integer (T : Tx w K mg) : VSp
  | [t], n, Q, x => okQ (isIntT t) (Q .non n) (x T.C_BadValue [("value", t)] n)
  | _, _, _, _ => False
def isPosT : Tr → Option Bool
  | .int i => some (decide (0 < i))
  | t => isIntT t
def isStpT : Tr → Option Bool
  | .int i => some (!decide (i = 0))
  | t => isIntT t
def isItT : Tr → Option Bool
  | .lst _ => some true
  | .tup _ => some true
  | .int _ => some false
  | .bl _ => some false
  | .non => some false
  | .str _ => some false
  | _ => none
def sp_need_positive (T : Tx w K mg) : VSp
  | [t], n, Q, x => okQ (isPosT t) (Q .non n) (x T.C_BadValue [("value", t)] n)
  | _, _, _, _ => False
def sp_need_step (T : Tx w K mg) : VSp
  | [t], n, Q, x => okQ (isStpT t) (Q .non n) (x T.C_BadValue [("value", t)] n)
  | _, _, _, _ => False
def sp_need_items (T : Tx w K mg) : VSp
  | [t], n, Q, x => okQ (isItT t) (Q .non n) (x T.C_BadValue [("value", t)] n)
  | _, _, _, _ => False
def sp_is_step (T : Tx w K mg) : VSp
  | [t], n, Q, _ => ∃ b, isStpT t = some b ∧ Q (.bl b) n
  | _, _, _, _ => False
def noInsT : Tr → Bool
  | .int _ => true
  | .bl _ => true
  | .non => true
  | .str _ => true
  | .tup _ => true
  | .lst _ => true
  | .dct _ => true
  | _ => false
/-! courses and statements, with what they raise -/
structure CrsOk (H R s r : Int) : Prop where
  nf : NF H R s r
  hB : B 150 H
  rB : B 150 R
def crsT (T : Tx w K mg) (H R s r : Int) : Tr := .ins T.C_Course [("houses", .int H), ("run", .int R), ("start", .int s), ("rise", .int r)]
def optT : Option Int → Tr
  | none => .non
  | some n => .int n
def sp_need_whole (T : Tx w K mg) : VSp
  | [t], n, Q, x => okQ (isWhT t) (Q .non n) (x T.C_BadValue [("value", t)] n)
  | _, _, _, _ => False
def sp_common_factor (T : Tx w K mg) : VSp
  | [.int a, .int b], n, Q, _ => 0 ≤ b ∧ (0 < b ∨ 0 ≤ a) ∧ Q (.int (Int.gcd a b : Nat)) n
  | _, _, _, _ => False
def sp_Course___init__ (T : Tx w K mg) : VIp
  | [.int H, .int s, .int r, .int R], n, Q, _ => 0 < H ∧ 0 < R ∧ B 150 H ∧ B 150 R ∧ Int.gcd r R = 1 ∧ Q [("houses", .int H), ("run", .int (nR R H)), ("start", .int (nS R H s r)), ("rise", .int (nr R H r))] n
  | _, _, _, _ => False
/-- two courses, by their forms -/
def sp_Course___eq__ (T : Tx w K mg) : VSp
  | [t, u], n, Q, _ => ∃ H R s r H' R' s' r', t = crsT T H R s r ∧ u = crsT T H' R' s' r' ∧ Q (.bl (decide (H = H' ∧ s = s' ∧ r = r' ∧ R = R'))) n
  | _, _, _, _ => False
def sp_Course___call__ (T : Tx w K mg) : VSp
  | [t, .int k], n, Q, _ => ∃ H R s r, t = crsT T H R s r ∧ CrsOk H R s r ∧ 0 ≤ k ∧ B 900 k ∧ Q (.int (hsC H R s r k)) n
  | _, _, _, _ => False
def l3T (l : L3) : Tr := .tup [.int l.1, .int l.2.1, .int l.2.2]
def sp_rests_of (T : Tx w K mg) : VSp
  | [t], n, Q, _ => ∃ l : L3, t = l3T l ∧ 0 < l.2.2 ∧ Q (l3T (resL l)) n
  | _, _, _, _ => False
def sp_exchanged (T : Tx w K mg) : VSp
  | [t], n, Q, _ => ∃ l : L3, t = l3T l ∧ Q (l3T (excL l)) n
  | _, _, _, _ => False
def sp_reaches (T : Tx w K mg) : VSp
  | [t, .int k], n, Q, _ => ∃ l : L3, t = l3T l ∧ 0 < l.2.1 ∧ B 900 l.1 ∧ B 900 l.2.1 ∧ B 900 l.2.2 ∧ B 2000 k ∧ Q (.int (rchL l k)) n
  | _, _, _, _ => False
/-- a line without whole parts, of a size that can be worked -/
structure OkR (l : L3) : Prop where
  s0 : 0 ≤ l.1
  sR : l.1 < l.2.2
  r0 : 0 ≤ l.2.1
  rR : l.2.1 < l.2.2
  B : DS.B 300 l.2.2
def sp_first_step (T : Tx w K mg) : VSp
  | [t], n, Q, _ => ∃ l : L3, t = l3T l ∧ OkR l ∧ Q (optT (stepF l.1 l.2.1 l.2.2)) n
  | _, _, _, _ => False
def skipF (l m : L3) : Int := match stepF l.1 l.2.1 l.2.2 with
  | none => missF m.1 m.2.1 m.2.2
  | some x => min (missF m.1 m.2.1 m.2.2) x
def sp_skipped (T : Tx w K mg) : VSp
  | [t, u], n, Q, _ => ∃ l m : L3, t = l3T l ∧ u = l3T m ∧ OkR l ∧ OkR m ∧ Q (.int (skipF l m)) n
  | _, _, _, _ => False
def sp_parted_at (T : Tx w K mg) : VSp
  | [t, u, .int g], n, Q, _ => ∃ l m : L3, t = l3T l ∧ u = l3T m ∧ OkR l ∧ OkR m ∧ (g ≠ 0 ∨ l.2.1 = 0 ∨ m.2.1 = 0) ∧ Q (optT (partF' l.1 l.2.1 l.2.2 m.1 m.2.1 m.2.2 g)) n
  | _, _, _, _ => False
def sp_first_apart (T : Tx w K mg) : VSp
  | [t, u], n, Q, _ => ∃ l m : L3, t = l3T l ∧ u = l3T m ∧ OkR l ∧ OkR m ∧ ∀ r, FstA (lnL l) (lnL m) r → Q (optT r) n
  | _, _, _, _ => False
def sp_line_of (T : Tx w K mg) : VSp
  | [t], n, Q, _ => ∃ H R s r, t = crsT T H R s r ∧ CrsOk H R s r ∧ Q (l3T (resL (s, r, R))) n
  | _, _, _, _ => False
/-- the least number at which two courses are in unlike houses; none just if they are one -/
def UnlC (H R s r R' s' r' : Int) (o : Option Int) : Prop := FstA (hsC H R s r) (hsC H R' s' r') o ∧ (o = none ↔ (s = s' ∧ r = r' ∧ R = R'))
def sp_first_unlike (T : Tx w K mg) : VSp
  | [t, u], n, Q, _ => ∃ H R s r R' s' r', t = crsT T H R s r ∧ u = crsT T H R' s' r' ∧ CrsOk H R s r ∧ CrsOk H R' s' r' ∧ ∀ o, UnlC H R s r R' s' r' o → Q (optT o) n
  | _, _, _, _ => False
def stmT (T : Tx w K mg) (t u : Tr) : Tr := .ins T.C_Statement [("target", t), ("source", u)]
/-- a course, or what is none -/
def crsQ (T : Tx w K mg) (t : Tr) (y : Int → Prop) (z : Prop) : Prop := (∃ H R s r, t = crsT T H R s r ∧ y H) ∨ (noInsT t = true ∧ z)
def sp_Statement___init__ (T : Tx w K mg) : VIp
  | [t, u], n, Q, x => crsQ T t (fun H => crsQ T u (fun H' => if H = H' then Q [("target", t), ("source", u)] n else x T.C_Unlike [("other", .int H'), ("one", .int H)] n) (x T.C_BadValue [("value", u)] n)) (x T.C_BadValue [("value", t)] n)
  | _, _, _, _ => False
def sp_Statement_is_silent (T : Tx w K mg) : VSp
  | [t], n, Q, _ => ∃ H R s r H' R' s' r', t = stmT T (crsT T H R s r) (crsT T H' R' s' r') ∧ Q (.bl (decide (H = H' ∧ s = s' ∧ r = r' ∧ R = R'))) n
  | _, _, _, _ => False
def sp_Statement_first_sent (T : Tx w K mg) : VSp
  | [t], n, Q, _ => ∃ H R s r R' s' r', t = stmT T (crsT T H R s r) (crsT T H R' s' r') ∧ CrsOk H R s r ∧ CrsOk H R' s' r' ∧ ∀ o, UnlC H R s r R' s' r' o → Q (optT o) n
  | _, _, _, _ => False
/-! sums of floors, and the first time in a range -/
def badX (T : Tx w K mg) (x : XQ) (n : Nat) (u : Tr) : Prop := x T.C_BadValue [("value", u)] n
def sp_folded (T : Tx w K mg) : VSp
  | [.int m, .int t, .tup [.int x, .int y, .int z]], n, Q, _ => B 9000 m ∧ B 9000 t ∧ B 90000 x ∧ B 90000 y ∧ B 90000 z ∧ Q (.tup [.int ((m - 1) * t - x), .int ((t * (m - 1) * m - z - x) / 2), .int ((m - 1) * t * (t + 1) - 2 * y - 2 * x - ((m - 1) * t - x))]) n
  | _, _, _, _ => False
def sp_raised (T : Tx w K mg) : VSp
  | [.int m, .int q, .int p, .tup [.int x, .int y, .int z]], n, Q, _ => B 9000 m ∧ B 9000 q ∧ B 9000 p ∧ B 90000 x ∧ B 90000 y ∧ B 90000 z ∧ Q (.tup [.int (x + q * (m * (m - 1) / 2) + p * m), .int (y + q * ((m - 1) * m * (2 * m - 1) / 6) + p * (m * (m - 1) / 2)), .int (z + (q * q * ((m - 1) * m * (2 * m - 1) / 6) + p * p * m + 2 * q * p * (m * (m - 1) / 2)) + 2 * q * y + 2 * p * x)]) n
  | _, _, _, _ => False
def flsT (r a b m : Int) : Tr := .tup [.int (f1 r a b m.toNat), .int (f2 r a b m.toNat), .int (f3 r a b m.toNat)]
def sp_sums_of (T : Tx w K mg) : VSp
  | [.int m, .int r, .int a, .int b], n, Q, _ => 0 ≤ m ∧ 0 < r ∧ B 1500 m ∧ B 1500 r ∧ B 1500 a ∧ B 1500 b ∧ Q (.tup [.int (f1 r a b m.toNat), .int (f2 r a b m.toNat), .int (f3 r a b m.toNat)]) n
  | _, _, _, _ => False
/-- the first wrong argument from the left, or the sums -/
def sp_floor_sums (T : Tx w K mg) : VSp
  | [tm, tr, ta, tb], n, Q, x => okQ (isWhT tm) (okQ (isPosT tr) (okQ (isIntT ta) (okQ (isIntT tb) (∃ m r a b, tm = .int m ∧ tr = .int r ∧ ta = .int a ∧ tb = .int b ∧ 0 ≤ m ∧ 0 < r ∧ B 1500 m ∧ B 1500 r ∧ B 1500 a ∧ B 1500 b ∧ Q (.tup [.int (f1 r a b m.toNat), .int (f2 r a b m.toNat), .int (f3 r a b m.toNat)]) n) (badX T x n tb)) (badX T x n ta)) (badX T x n tr)) (badX T x n tm)
  | _, _, _, _ => False

/-! items that are sent below a length -/
structure Two where
  H : Int
  R : Int
  s : Int
  r : Int
  R' : Int
  s' : Int
  r' : Int
structure OkTwo (p : Two) : Prop where
  a : CrsOk p.H p.R p.s p.r
  b : CrsOk p.H p.R' p.s' p.r'
def Two.sb (p : Two) : Int → Bool := sntB p.H p.R p.s p.r p.R' p.s' p.r'
def Two.snt (p : Two) (m : Int) : Int := sntN p.H p.R p.s p.r p.R' p.s' p.r' m
def Two.T (p : Two) : Int := jtF p.H p.R p.r p.R' p.r'
def Two.Cnt (p : Two) : Prop := Cntd p.H p.R p.r p.R' p.r'
def Two.Sil (p : Two) : Prop := p.s = p.s' ∧ p.r = p.r' ∧ p.R = p.R'
instance (p : Two) : Decidable p.Cnt := by unfold Two.Cnt Cntd; infer_instance
instance (p : Two) : Decidable p.Sil := by unfold Two.Sil; infer_instance
/-- parallel -/
def Two.Par (p : Two) : Prop := (p.R = p.R' ∧ p.r = p.r') ∨ (p.R = p.R' ∧ (p.r + p.r') % (p.R * p.H) = 0)
instance (p : Two) : Decidable p.Par := by unfold Two.Par; infer_instance
def oneT (T : Tx w K mg) (p : Two) : Tr := crsT T p.H p.R p.s p.r
def othT (T : Tx w K mg) (p : Two) : Tr := crsT T p.H p.R' p.s' p.r'
def sp_total_of (T : Tx w K mg) : VSp
  | [.int m, .int r, .int a, .int b], n, Q, _ => 0 ≤ m ∧ 0 < r ∧ B 1500 m ∧ B 1500 r ∧ B 1500 a ∧ B 1500 b ∧ Q (.int (f1 r a b m.toNat)) n
  | _, _, _, _ => False
def sp_count_in (T : Tx w K mg) : VSp
  | [.int m, .int r, .int a, .int b, .int l], n, Q, _ => 0 ≤ m ∧ 0 < r ∧ B 1500 m ∧ B 1500 r ∧ B 1500 a ∧ B 1400 b ∧ B 1400 l ∧ Q (.int (f1 r a b m.toNat - f1 r a (b - l) m.toNat)) n
  | _, _, _, _ => False
def sp_Course_marks (T : Tx w K mg) : VSp
  | [t], n, Q, _ => ∃ H R s r, t = crsT T H R s r ∧ CrsOk H R s r ∧ Q (.int (R * H)) n
  | _, _, _, _ => False
def sp_Course_spacing (T : Tx w K mg) : VSp
  | [t], n, Q, _ => ∃ H R s r, t = crsT T H R s r ∧ CrsOk H R s r ∧ Q (.int (Int.gcd r (R * H) : Nat)) n
  | _, _, _, _ => False
def sp_Course_turn (T : Tx w K mg) : VSp
  | [t], n, Q, _ => ∃ H R s r, t = crsT T H R s r ∧ CrsOk H R s r ∧ Q (.int (tu R H r)) n
  | _, _, _, _ => False
def sp_Course_counted (T : Tx w K mg) : VSp
  | [t, .int g, .int m], n, Q, _ => ∃ H R s r, t = crsT T H R s r ∧ CrsOk H R s r ∧ 0 ≤ m ∧ B 1400 m ∧ 0 ≤ g ∧ g < H ∧ Q (.int (f1 (R * H) r (s - g * R) m.toNat - f1 (R * H) r (s - g * R - R) m.toNat)) n
  | _, _, _, _ => False
def isBelT (j : Int) : Tr → Option Bool
  | .int i => some (decide (0 ≤ i) && !decide (j ≤ i))
  | t => isIntT t
def sp_need_below (T : Tx w K mg) : VSp
  | [t, .int j], n, Q, x => okQ (isBelT j t) (Q .non n) (x T.C_BadValue [("value", t)] n)
  | _, _, _, _ => False
def sp_Course_count (T : Tx w K mg) : VSp
  | [t, tg, tm], n, Q, x => ∃ H R s r, t = crsT T H R s r ∧ CrsOk H R s r ∧ okQ (isBelT H tg) (okQ (isWhT tm) (∃ g m, tg = .int g ∧ tm = .int m ∧ 0 ≤ m ∧ B 1400 m ∧ 0 ≤ g ∧ g < H ∧ Q (.int (f1 (R * H) r (s - g * R) m.toNat - f1 (R * H) r (s - g * R - R) m.toNat)) n) (badX T x n tm)) (badX T x n tg)
  | _, _, _, _ => False
def sp_is_level (T : Tx w K mg) : VSp
  | [t, u], n, Q, _ => ∃ p : Two, t = oneT T p ∧ u = othT T p ∧ Q (.bl (decide (p.R = p.R' ∧ p.r = p.r'))) n
  | _, _, _, _ => False
def sp_is_opposite (T : Tx w K mg) : VSp
  | [t, u], n, Q, _ => ∃ p : Two, t = oneT T p ∧ u = othT T p ∧ OkTwo p ∧ Q (.bl (decide (p.R = p.R' ∧ (p.r + p.r') % (p.R * p.H) = 0))) n
  | _, _, _, _ => False
def sp_marks_below (T : Tx w K mg) : VSp
  | [t, .int m, .int M, .int lo, .int hi], n, Q, _ => ∃ H R s r, t = crsT T H R s r ∧ CrsOk H R s r ∧ 0 ≤ m ∧ 0 < M ∧ B 1400 m ∧ B 1400 M ∧ B 1400 lo ∧ B 1400 hi ∧ Q (.int (f1 M r (s - lo) m.toNat - f1 M r (s - hi) m.toNat)) n
  | _, _, _, _ => False
def p2T (p : Int × Int) : Tr := .tup [.int p.1, .int p.2]
def sp_sent_marks (T : Tx w K mg) : VSp
  | [t, u], n, Q, _ => ∃ p : Two, t = oneT T p ∧ u = othT T p ∧ OkTwo p ∧ Q (p2T (smkF p.H p.R p.s p.s')) n
  | _, _, _, _ => False
def sp_halves (T : Tx w K mg) : VSp
  | [.int i, .int H], n, Q, _ => 0 < H ∧ B 200 H ∧ B 400 i ∧ Q (.lst ((hlvF i H).map .int)) n
  | _, _, _, _ => False
def sp_kept_marks (T : Tx w K mg) : VSp
  | [t, u], n, Q, _ => ∃ p : Two, t = oneT T p ∧ u = othT T p ∧ OkTwo p ∧ Q (.lst ((kptF p.H p.R p.s p.s').map p2T)) n
  | _, _, _, _ => False
def sp_sent_below (T : Tx w K mg) : VSp
  | [t, u, .int m], n, Q, _ => ∃ p : Two, t = oneT T p ∧ u = othT T p ∧ OkTwo p ∧ p.Cnt ∧ 0 ≤ m ∧ B 1300 m ∧ Q (.int (p.snt m)) n
  | _, _, _, _ => False
def twoT (T : Tx w K mg) (p : Two) : Tr := stmT T (crsT T p.H p.R p.s p.r) (crsT T p.H p.R' p.s' p.r')
def sp_Statement_turn (T : Tx w K mg) : VSp
  | [t], n, Q, _ => ∃ p : Two, t = twoT T p ∧ OkTwo p ∧ Q (.int p.T) n
  | _, _, _, _ => False
def sp_Statement_is_parallel (T : Tx w K mg) : VSp
  | [t], n, Q, _ => ∃ p : Two, t = twoT T p ∧ OkTwo p ∧ Q (.bl (decide p.Par)) n
  | _, _, _, _ => False
def sp_Statement_is_counted (T : Tx w K mg) : VSp
  | [t], n, Q, _ => ∃ p : Two, t = twoT T p ∧ OkTwo p ∧ Q (.bl (decide p.Cnt)) n
  | _, _, _, _ => False
def sp_Statement_need_counted (T : Tx w K mg) : VSp
  | [t], n, Q, x => ∃ p : Two, t = twoT T p ∧ OkTwo p ∧ if p.Cnt then Q .non n else x T.C_NotTold [] n
  | _, _, _, _ => False
/-- refused, not told, or told -/
def cntQ (T : Tx w K mg) (p : Two) (u : Tr) (n : Nat) (x : XQ) (y : Int → Prop) : Prop := okQ (isWhT u) (if p.Cnt then ∃ m, u = .int m ∧ 0 ≤ m ∧ y m else x T.C_NotTold [] n) (x T.C_BadValue [("value", u)] n)
def sp_Statement_sent (T : Tx w K mg) : VSp
  | [t, u], n, Q, x => ∃ p : Two, t = twoT T p ∧ OkTwo p ∧ cntQ T p u n x fun m => B 1300 m ∧ Q (.int (p.snt m)) n
  | _, _, _, _ => False
/-- the item with a number, none just if all is silent -/
def ItmQ (p : Two) (c : Int) (y : Tr → Prop) : Prop := (p.Sil → y .non) ∧ (¬ p.Sil → ∀ i, IsItem p.sb c i → (c < p.snt p.T → i < p.T) → B 900 i → y (.int i))
def sp_Statement_item_within (T : Tx w K mg) : VSp
  | [t, .int tn, .int each, .int c], n, Q, _ => ∃ p : Two, t = twoT T p ∧ OkTwo p ∧ p.Cnt ∧ tn = p.T ∧ each = p.snt p.T ∧ 0 ≤ c ∧ c < each ∧ ∀ i, IsItem p.sb c i → i < p.T → Q (.int i) n
  | _, _, _, _ => False
def sp_Statement_sent_item (T : Tx w K mg) : VSp
  | [t, u], n, Q, x => ∃ p : Two, t = twoT T p ∧ OkTwo p ∧ cntQ T p u n x fun c => B 400 c ∧ ItmQ p c fun v => Q v n
  | _, _, _, _ => False
def sp_Statement_next_sent (T : Tx w K mg) : VSp
  | [t, u], n, Q, x => ∃ p : Two, t = twoT T p ∧ OkTwo p ∧ cntQ T p u n x fun k => B 400 k ∧ ItmQ p (p.snt k) fun v => Q v n
  | _, _, _, _ => False
/-! the law's own words -/
abbrev L4 : Type := Int × Int × Int × Int
def l4T (l : L4) : Tr := .tup [.int l.1, .int l.2.1, .int l.2.2.1, .int l.2.2.2]
/-- a course told by houses, start, rise and run -/
structure OkL4 (l : L4) : Prop where
  h0 : 0 < l.1
  R0 : 0 < l.2.2.2
  hB : B 60 l.1
  RB : B 110 l.2.2.2
  sB : B 250 l.2.1
  rB : B 250 l.2.2.1
  g : Int.gcd l.2.2.1 l.2.2.2 = 1
def hsL (l : L4) (k : Int) : Int := (l.2.1 + l.2.2.1 * k) / l.2.2.2 % l.1
def crL (T : Tx w K mg) (l : L4) : Tr := crsT T l.1 (nR l.2.2.2 l.1) (nS l.2.2.2 l.1 l.2.1 l.2.2.1) (nr l.2.2.2 l.1 l.2.2.1)
def sp__law_great (T : Tx w K mg) : VSp
  | [.pen, .int f], n, Q, _ => 7 ≤ f ∧ f ≤ 35 ∧ n ≤ 950000 ∧ ∀ d n', 0 ≤ d → B (24 * (f / 7).toNat) d → n' ≤ n + 6 → Q (.int d) n'
  | _, _, _, _ => False
def sp__law_factor (T : Tx w K mg) : VSp
  | [.int a, .int b], n, Q, _ => 0 ≤ b ∧ 0 ≤ a ∧ Q (.int (Int.gcd a b : Nat)) n
  | _, _, _, _ => False
def sp__law_house (T : Tx w K mg) : VSp
  | [t, .int k], n, Q, _ => ∃ l : L4, t = l4T l ∧ OkL4 l ∧ B 900 k ∧ Q (.int (hsL l k)) n
  | _, _, _, _ => False
def sp__law_course (T : Tx w K mg) : VSp
  | [t], n, Q, _ => ∃ l : L4, t = l4T l ∧ OkL4 l ∧ Q (crL T l) n
  | _, _, _, _ => False
/-- both lines of a statement -/
def two (l m : L4) : Two := ⟨l.1, nR l.2.2.2 l.1, nS l.2.2.2 l.1 l.2.1 l.2.2.1, nr l.2.2.2 l.1 l.2.2.1, nR m.2.2.2 l.1, nS m.2.2.2 l.1 m.2.1 m.2.2.1, nr m.2.2.2 l.1 m.2.2.1⟩
structure OkLL (l m : L4) : Prop where
  a : OkL4 l
  b : OkL4 m
  e : l.1 = m.1
  c : (two l m).Cnt
def sp__law_sent (T : Tx w K mg) : VSp
  | [t, u, .int k], n, Q, _ => ∃ l m : L4, t = l4T l ∧ u = l4T m ∧ OkL4 l ∧ OkL4 m ∧ B 900 k ∧ Q (.bl (!decide (hsL l k = hsL m k))) n
  | _, _, _, _ => False
def sp__law_line (T : Tx w K mg) : VSp
  | [.pen, .int H, .bl _], n, Q, _ => 0 < H ∧ B 60 H ∧ n ≤ 900000 ∧ ∀ l : L4, ∀ n', OkL4 l → l.1 = H → B 8 l.2.1 → B 100 l.2.2.1 → B 100 l.2.2.2 → n' ≤ n + 20 → Q (l4T l) n'
  | _, _, _, _ => False
def sp__law_lines (T : Tx w K mg) : VSp
  | [.pen, .bl _], n, Q, _ => n ≤ 800000 ∧ ∀ l m : L4, ∀ n', OkLL l m → n' ≤ n + 100 → Q (.tup [l4T l, l4T m]) n'
  | _, _, _, _ => False
def sp__law_step_right (T : Tx w K mg) : VSp
  | [.pen, t, u, v, .int k], n, Q, _ => ∃ l m : L4, t = twoT T (two l m) ∧ u = l4T l ∧ v = l4T m ∧ OkLL l m ∧ 0 ≤ k ∧ B 130 k ∧ n ≤ 800000 ∧ ∀ n', n' ≤ n + 20 → Q (.bl true) n'
  | _, _, _, _ => False
def sp__law_near_right (T : Tx w K mg) : VSp
  | [t, u, v], n, Q, _ => ∃ l m : L4, t = twoT T (two l m) ∧ u = l4T l ∧ v = l4T m ∧ OkLL l m ∧ Q (.bl true) n
  | _, _, _, _ => False
def sp__law_call (T : Tx w K mg) : VSp
  | [t, .int i, u], n, Q, x => ∃ p : Two, t = twoT T p ∧ OkTwo p ∧ ¬ p.Cnt ∧ okQ (isWhT u) (x T.C_NotTold [] n) (x T.C_BadValue [("value", u)] n)
  | _, _, _, _ => False
def sp__law_refused_right (T : Tx w K mg) : VSp
  | [.pen], n, Q, _ => n ≤ 800000 ∧ ∀ n', n' ≤ n + 20 → Q (.bl true) n'
  | _, _, _, _ => False
end
end K25
namespace K25
open PySem L2 DS VL
set_option pp.maxSteps 1200
local macro_rules | `(tactic| walk_at "c") => `(tactic| first
  | (dsimp only; omega)
  | omega
  | (show CMulA _ _; first | exact CMulA.s1 (by omega) (by omega) | exact CMulA.s2 (by omega) (by omega))
  | (show CDivW _ _; first | exact ⟨by omega, by assumption⟩ | exact ⟨by omega, by decide⟩)
  | (show CPow _ _; exact ⟨by decide, by decide, by decide⟩)
  | assumption)
local macro_rules | `(tactic| walk_at "get") => `(tactic| first
  | assumption
  | (refine (by assumption : Same _ _) _ _ ?_; walk_at "get")
  | (refine (by assumption : Keep _ _) _ _ ?_ rfl; walk_at "get"))
local macro_rules | `(tactic| walk_at "pen") => `(tactic| first
  | assumption
  | (refine Pen.same (by assumption) ?_; walk_at "pen")
  | (refine Pen.mono ?_ (by omega); assumption))
local macro_rules | `(tactic| walk_at "keep") => `(tactic| first
  | assumption
  | exact Keep.refl _
  | exact Keep.of (by assumption)
  | (refine Keep.trans ?_ (by assumption); walk_at "keep")
  | (refine Keep.same ?_ (by assumption); walk_at "keep"))
local macro_rules | `(tactic| walk_at "same") => `(tactic| first
  | assumption
  | exact Same.refl _
  | (refine Same.trans ?_ (by assumption); walk_at "same"))
local macro_rules | `(tactic| walk_at "s0") => `(tactic| first
  | with_reducible refine w_seq ?_
  | with_reducible refine w_asg ?_
  | with_reducible refine w_name ?_
  | ((with_reducible apply w_var); exact rfl)
  | with_reducible refine w_c ?_
  | with_reducible refine w_op ?_
  | with_reducible refine w_I0 ?_
  | ((with_reducible apply w_I); (walk_at "c"))
  | with_reducible refine w_cons ?_
  | with_reducible refine w_nil ?_
  | with_reducible refine w_cb ?_
  | with_reducible refine w_int1 ?_
  | with_reducible refine w_int1b ?_
  | with_reducible refine w_call ?_
  | with_reducible refine w_test ?_
  | with_reducible refine w_k ?_
  | with_reducible refine w_ret ?_
  | with_reducible refine w_drop ?_
  | with_reducible refine w_not ?_
  | with_reducible refine w_and ?_
  | with_reducible refine w_or ?_
  | with_reducible refine w_andV ?_
  | with_reducible refine w_orV ?_
  | with_reducible refine w_notV ?_
  | with_reducible refine w_if ?_
  | with_reducible refine w_B ?_
  | with_reducible refine w_un ?_
  | with_reducible refine w_U ?_
  | (with_reducible refine w_tup ?_; intro _ _)
  | (with_reducible refine w_lst ?_; intro _ _)
  | with_reducible refine w_dget ?_
  | with_reducible refine w_dput ?_
  | with_reducible refine w_fld ?_
  | with_reducible refine w_meth ?_
  | (with_reducible refine w_make ?_; intro _ _)
  | with_reducible refine w_par ?_
  | with_reducible refine w_par3 ?_
  | with_reducible refine w_two ?_
  | with_reducible refine w_three ?_
  | with_reducible refine w_one ?_
  | with_reducible refine w_chain ?_
  | with_reducible refine w_next ?_
  | with_reducible refine w_brk ?_
  | with_reducible refine w_cont ?_
  | with_reducible refine w_retN ?_
  | with_reducible refine w_gcons ?_
  | with_reducible refine w_gnil ?_
  | ((with_reducible refine w_eq ?_ ?_); exact rfl)
  | ((with_reducible refine w_ne ?_ ?_); exact rfl)
  | with_reducible refine w_part ?_
  | with_reducible refine w_lc ?_
  | with_reducible refine w_bm ?_
  | with_reducible refine w_lcS ?_
  | with_reducible refine w_yes ?_
  | with_reducible refine w_iTup ?_
  | with_reducible refine w_iList ?_
  | with_reducible refine w_unT ?_
  | with_reducible refine w_unT0 ?_
  | with_reducible refine w_unL ?_
  | with_reducible refine w_unL0 ?_
  | ((with_reducible apply w_gtup); (walk_at "get"); (exact rfl))
  | with_reducible refine w_gfld ?_
  | with_reducible refine w_sfld ?_
  | with_reducible refine w_risi ?_
  | with_reducible refine w_i ?_
  | with_reducible refine w_pnil ?_
  | with_reducible refine w_pcons ?_
  | with_reducible refine w_sl ?_
  | with_reducible refine w_nopart ?_
  | with_reducible refine w_for ?_
  | with_reducible refine w_while ?_
  | with_reducible refine w_irng1 ?_
  | with_reducible refine w_irng2 ?_
  | with_reducible refine And.intro (rfl : V.non = V.non) ?_)
local macro_rules | `(tactic| walk_at "s") => `(tactic| first | walk_at "s0" | with_reducible refine w_ifs ?_)
local macro_rules | `(tactic| walk_at "go") => `(tactic| repeat (walk_at "s"))
local macro_rules | `(tactic| walk_at "gi") => `(tactic| repeat (walk_at "s0"))

def pen (c : Addr) (a l : Int) : List (Key × V) := [(Sum.inr "cells", .ref c), (Sum.inr "at", .int a), (Sum.inr "left", .int l)]
theorem pen_cells (c : Addr) (a l : Int) : valV (pen c a l) (Sum.inr "cells") = some (.ref c) := by unfold pen valV; simp
theorem pen_at (c : Addr) (a l : Int) : valV (pen c a l) (Sum.inr "at") = some (.int a) := by
  have h : ¬ (("cells" : Str) = "at") := by decide +kernel
  unfold pen valV; simp [h]
theorem pen_left (c : Addr) (a l : Int) : valV (pen c a l) (Sum.inr "left") = some (.int l) := by
  have h : ¬ (("cells" : Str) = "left") := by decide +kernel
  have h2 : ¬ (("at" : Str) = "left") := by decide +kernel
  unfold pen valV; simp [h, h2]
theorem pen_put_at (c : Addr) (a l b : Int) : putK (pen c a l) (Sum.inr "at") (.int b) = pen c b l := by
  have h : ¬ (("cells" : Str) = "at") := by decide +kernel
  have h2 : ¬ (("left" : Str) = "at") := by decide +kernel
  unfold pen putK; simp [h, h2]
theorem pen_put_left (c : Addr) (a l b : Int) : putK (pen c a l) (Sum.inr "left") (.int b) = pen c a b := by
  have h : ¬ (("cells" : Str) = "left") := by decide +kernel
  have h2 : ¬ (("at" : Str) = "left") := by decide +kernel
  unfold pen putK; simp [h, h2]
theorem pen_len (c : Addr) (a l : Int) : (pen c a l).length < sizeLine := Nat.lt_of_lt_of_le (show 3 < 4 by decide) (by decide)
section
variable {P : Program} {w : World} {K : PySem.W.Frag} {mg : Str → Option Value} {base : Heap}
theorem ok__law_draw (T : Tx w K mg) : FnOk P w K mg base (L2.CX P w) 1 T.f__law_draw T.fd__law_draw ["_law_pen_here", "_law_span"] (lSp (gK T) 2 vdraw) := by
  refine FnOk.cx (T.F__law_draw.ok sc__law_draw (fun vs H Q E h => h.len) (fun cdv A outer s H vs Q E hr h => ?_))
  obtain ⟨n, F, ts, Q0, xq, hlen, sub, rr, h, th, _⟩ := h
  match ts, h, rr with
  | [.pen, .int many], ⟨h0, hb, hn, q⟩, rr =>
    obtain ⟨v, u, rfl, r1, r2⟩ := rr.two
    cases r2
    cases r1 with
    | pen hd =>
      rename_i d zz
      have hu := hu_of hr
      have hu64 := hu64_of hr
      obtain ⟨c, ns, a, l, h1, hc, ha0, han, hl0, hlen, hz⟩ := (sub.pen d hd).ex
      have h2 := sub.at_ hc
      have h1 : H d = some (.dK (pen c a l)) := h1
      have fin : ∀ (r : Int) (H' : Hp) (a' l' : Int), 0 ≤ r → r < many → H' d = some (.dK (pen c a' l')) → 0 ≤ a' → a' ≤ ((n + 1 : Nat) : Int) → 0 ≤ l' → ButV d H H' → Q (.int r) H' := fun r H' a' l' r0 r1 e a0 a1 l0 bt =>
        pen_end th sub hd bt e hc a0 a1 l0 hlen hz (.int r) (q r r0 r1)
      have hlog : many.natAbs.log2 < 9000 := log_lt h0 hb (by decide)
      refine ⟨_, (pss_cons (ps_if (pt_cmpR op_ge (pe_dget hu (pv 0) pe_str (fun _ _ => rfl)) (pv 1) (nomark _)) (pss_cons (ps_set (i := 2) sc__law_draw.nd rfl (Or.inl rfl) (pe_op op_mod (pe_callTy call_int1 (by rfl) T.z_int (by decide +kernel) (pa_cons (pe_dget hu (pv 0) pe_str (fun _ _ => rfl)) pa_nil)) (pv 1)))
      (pss_cons (ps_dput hu (pv 0) pe_str (pe_op op_fdivW (pe_dget hu (pv 0) pe_str (fun _ _ => rfl)) (pv 1)) rfl)
      (pss_one (ps_ret (pv 2))))) pss_nil)
      (pss_cons (ps_set (i := 3) sc__law_draw.nd rfl (Or.inl rfl) (pe_dget hu (pv 0) pe_str (fun _ _ => rfl)))
      (pss_cons (ps_dput hu (pv 0) pe_str (pe_op op_add (pv 3) pe_int) rfl)
      (pss_cons (ps_set (i := 4) sc__law_draw.nd rfl (Or.inl rfl) (pe_op op_add (pe_op op_mulA pe_int (pv 3)) pe_int))
      (pss_cons (ps_if (pt_cmpR (op_neD hu64) (pe_dget hu (pv 0) pe_str (fun _ _ => rfl)) (pe_lst pa_nil) (nomark _)) (pss_one (ps_set (i := 4) sc__law_draw.nd rfl (Or.inl rfl) (pe_ix ix_list (pe_dget hu (pv 0) pe_str (fun _ _ => rfl)) (pe_op op_mod (pe_callTy call_int1 (by rfl) T.z_int (by decide +kernel) (pa_cons (pv 3) pa_nil)) (pe_callB call_len_seq (by rfl) T.z_len PySem.boot_len (pa_cons (pe_dget hu (pv 0) pe_str (fun _ _ => rfl)) pa_nil))) (fun _ _ => rfl)))) pss_nil)
      (pss_cons (ps_if (PW.pt (pw_and (pt_cmpR op_lt (pv 3) (pe_callB call_len_seq (by rfl) T.z_len PySem.boot_len (pa_cons (pe_dget hu (pv 0) pe_str (fun _ _ => rfl)) pa_nil)) (nomark _)) (pw_and1 (pt_cmpR op_ge (pv 4) (pe_op op_pow pe_int pe_int) (nomark _))))) (pss_cons (ps_dput hu (pv 0) pe_str (pe_op op_fdivW (pe_op op_sub (pv 4) (pe_op op_pow pe_int pe_int)) (pv 1)) rfl)
      (pss_one (ps_ret (pe_op op_mod (pe_callTy call_int1 (by rfl) T.z_int (by decide +kernel) (pa_cons (pe_op op_sub (pv 4) (pe_op op_pow pe_int pe_int)) pa_nil)) (pv 1))))) pss_nil)
      (pss_cons (ps_set (i := 5) sc__law_draw.nd rfl (Or.inl rfl) (pe_op op_add (pe_op op_mulA (pe_op op_mod (pe_callTy call_int1 (by rfl) T.z_int (by decide +kernel) (pa_cons (pv 4) pa_nil)) pe_int) pe_int) (pe_op op_mulA (pe_op op_mulA pe_int (pv 3)) (pv 3))))
      (pss_cons (ps_set (i := 5) sc__law_draw.nd rfl (Or.inl rfl) (pe_op op_mod (pe_callTy call_int1 (by rfl) T.z_int (by decide +kernel) (pa_cons (pe_op op_add (pe_op op_add (pv 5) (pe_op op_mulA pe_int (pv 3))) pe_int) pa_nil)) pe_int))
      (pss_cons (ps_set (i := 5) sc__law_draw.nd rfl (Or.inl rfl) (pe_op op_mod (pe_callTy call_int1 (by rfl) T.z_int (by decide +kernel) (pa_cons (pe_op op_add (pe_op op_mulA (pv 5) (pe_op op_add (pv 5) pe_int)) (pe_op op_mulA pe_int (pv 3))) pa_nil)) pe_int))
      (pss_one (ps_ret (pe_op op_mod (pe_callTy call_int1 (by rfl) T.z_int (by decide +kernel) (pa_cons (pe_op op_fdivW (pe_op op_mod (pe_callTy call_int1 (by rfl) T.z_int (by decide +kernel) (pa_cons (pe_op op_add (pe_op op_mulA (pv 5) (pv 5)) (pe_op op_mulA pe_int (pv 5))) pa_nil)) pe_int) pe_int) pa_nil)) (pv 1))))))))))))), ?_⟩
      walk_at "go"
      refine w_dg h1 (pen_left _ _ _) ?_
      walk_at "go"
      refine w_ite (fun hc => ?_) (fun hc => ?_)
      · walk_at "go"
        refine w_dg h1 (pen_left _ _ _) ?_
        walk_at "go"
        refine w_dg h1 (pen_left _ _ _) ?_
        walk_at "go"
        refine w_dp h1 (pen_len _ _ _) ?_
        rw [pen_put_left]
        walk_at "go"
        exact fin _ _ a (l / many) (Int.emod_nonneg _ (by omega)) (Int.emod_lt_of_pos _ h0) upd_same ha0 (by omega) (Int.ediv_nonneg hl0 (by omega)) ButV.upd
      · walk_at "go"
        refine w_dg h1 (pen_at _ _ _) ?_
        walk_at "go"
        refine w_dp h1 (pen_len _ _ _) ?_
        rw [pen_put_at]
        obtain ⟨H1, k1, e1, e2, z1⟩ : ∃ H1, ButV d H H1 ∧ H1 d = some (.dK (pen c (a + 1) l)) ∧ H1 c = some (.lst (ns.map V.int)) ∧ upd H d (.dK (pen c (a + 1) l)) = H1 := ⟨_, ButV.upd, upd_same, by rw [upd_ne (ne_of h2 h1 (by intro z; cases z))]; exact h2, rfl⟩
        rw [z1]
        walk_at "go"
        refine w_dg e1 (pen_cells _ _ _) ?_
        walk_at "go"
        refine w_new (by assumption) (Nat.zero_le _) (fun p H2 np s2 hp => ?_)
        walk_at "go"
        refine w_neNil (s2 _ _ e2) hp ?_
        walk_at "go"
        have f1 := s2 _ _ e1
        have f2 := s2 _ _ e2
        have kk : ButV d H H2 := k1.same s2
        refine w_iteB (fun hc => ?yes) (fun hc => ?no)
        case' yes =>
          walk_at "go"
          refine w_dg f1 (pen_cells _ _ _) ?_
          walk_at "go"
          refine w_dg f1 (pen_cells _ _ _) ?_
          walk_at "go"
          refine w_lenL f2 ?_
          have h63 : 0 < ((ns.map V.int).length : Int) := by
            rw [List.length_map]
            cases ns with
            | nil => cases hc
            | cons x r => exact Int.natCast_pos.mpr (Nat.succ_pos _)
          walk_at "go"
          obtain ⟨z, hz⟩ := at_ints (ns := ns) (i := a % ((ns.map V.int).length : Int)) (Int.emod_nonneg _ (by omega)) (by
            have := Int.emod_lt_of_pos a h63
            rw [List.length_map] at this ⊢
            exact this)
          refine w_ixL f2 hz ?_
        all_goals
          walk_at "go"
          refine w_dg f1 (pen_cells _ _ _) ?_
          walk_at "go"
          refine w_lenL f2 ?_
          walk_at "go"
          refine w_ite (fun hd => ?_) (fun hd => ?_)
          · walk_at "go"
            refine w_ite (fun he => ?_) (fun he => ?_)
            · walk_at "go"
              refine w_dp f1 (pen_len _ _ _) ?_
              rw [pen_put_left]
              walk_at "go"
              refine fin _ _ (a + 1) _ (Int.emod_nonneg _ (by omega)) (Int.emod_lt_of_pos _ h0) upd_same (by omega) (by omega) (Int.ediv_nonneg ?_ (by omega)) (kk.trans ButV.upd)
              have e18 : (10 : Int) ^ (18 : Int).toNat = 1000000000000000000 := by decide
              rw [e18] at he ⊢
              omega
            · walk_at "go"
              exact fin _ _ (a + 1) l (Int.emod_nonneg _ (by omega)) (Int.emod_lt_of_pos _ h0) f1 (by omega) (by omega) hl0 kk
          · refine iteF ?_
            walk_at "go"
            exact fin _ _ (a + 1) l (Int.emod_nonneg _ (by omega)) (Int.emod_lt_of_pos _ h0) f1 (by omega) (by omega) hl0 kk
theorem ok__law_pen (T : Tx w K mg) : FnOk P w K mg base (L2.CX P w) 1 T.f__law_pen T.fd__law_pen ["_law_script"] (lSp (gK T) 1 vbegin) := by
  refine FnOk.cx (T.F__law_pen.ok sc__law_pen (fun vs H Q E h => h.len) (fun cdv A outer s H vs Q E hr h => ?_))
  obtain ⟨n, F, ts, Q0, xq, hlen, sub, rr, h, th, _⟩ := h
  match ts, h, rr with
  | [.scr ns], ⟨hl, q⟩, rr =>
    obtain ⟨v, rfl, r1⟩ := rr.one
    cases r1 with
    | scr hS =>
      have hu := hu_of hr
      have hu64 := hu64_of hr
      have hS := sqL_same sub.ob hS
      refine ⟨_, (pss_one (ps_ret (pe_disp (pps_cons pe_str (pe_callTy call_list_of (by rfl) T.z_list (by decide +kernel) (pa_cons (pe_slice sl_list (pv 0) po_none (po_some pe_int)) pa_nil)) (pps_cons pe_str pe_int (pps_cons pe_str pe_int pps_nil))) rfl rfl (by simp) (by decide)))), ?_⟩
      walk_at "go"
      refine w_disp (fun Q' eQ p H1 np s1 hp => ?_)
      walk_at "go"
      refine w_slL (s1.seq hS) (fun l2 H2 n2 s2 e2 => ?_)
      walk_at "go"
      obtain ⟨ms, em, lm⟩ := cut_ints ns none (some 63)
      rw [em] at e2
      refine ⟨l2, _, rfl, .inl (.inl (.inl e2)), fun l3 n3 => ?_⟩
      have s3 := same_upd (o := .lst (ms.map V.int)) n3
      have e3 : upd H2 l3 (.lst (ms.map V.int)) l3 = some (.lst (ms.map V.int)) := upd_same
      walk_at "go"
      have nl : H l3 = none := by
        cases z : H l3 with
        | none => rfl
        | some o => rw [s2 _ _ (s1 _ _ z)] at n3; cases n3
      have pl : p ≠ l3 := fun z => by rw [z] at hp; rw [s2 _ _ hp] at n3; cases n3
      generalize upd H2 l3 (.lst (ms.map V.int)) = H3 at *
      refine w_dend [(Sum.inr "cells", .ref l3), (Sum.inr "at", .int 0), (Sum.inr "left", .int 0)] eQ (s3 _ _ (s2 _ _ hp)) rfl (Nat.le_of_ble_eq_true rfl) (fun H4 k4 sm4 e4 => ?_)
      exact begin_end (H1 := H) th sub np nl pl (sm4 H ((s1.trans s2).trans s3) np) e4 (k4 _ _ e3 rfl) (by omega) (fun z => nomatch z) q
end
end K25
namespace K25
open PySem L2 DS VL NdefX MT
set_option pp.maxSteps 2000
local macro_rules | `(tactic| walk_at "v") => `(tactic| try dsimp only [vNext, vSeq, vBreak, vCont, vDrop, vRet, vRetN, vIfS, vSet, vFrz, frz, frzS, vSetOL, gNm, VL.gNil, VL.gCons, gTupN, vAsg, parQ, vPar, par3Q, vPar3, vFor, iLst, lstQ, VL.iTup, tupQ, VL.iRng1, rng1Q, VL.iRng2, rng2Q, vVar, vv, gt, vC, vOp, vUn, vI, vI0, vU, vEqS, isNonT, isNQ, vIsN, vbl, vIf, vAndV, vOrV, vNotV, vChain, vTest, vNot, vYes, vNo, vAnd, vOr, vNil, vCons, vTup, vLst, lkQ, fldC, vFldC, fldO, vFldO, vCall, methQ, vMeth, vMake, vBinII, vBinIZ, vNegOwn, vEqII, ends, endsI, oiQ, startT, startI, vCB, cInt, cAbs, c2I, cDivmod, cLen, cList, cTuple, cSum, cAll, cAny, cSorted, ixL, ixT, ixQ, oNone, oiQ2, oSome, slQ, vSlL, vCat, truT, truQ, vTru, augQ, augS, vAug, isBt, isQ, cIsB, isCQ, cIsC, isSeq, vIsSeq, vEqD, inSQ, vIn, appQ, vApp, setK, setQ, vSetI, popK, popQ, vPop, olQ, vLenO, vIxO, vTruO, fsQ, vFldS, putT, self2P, self2Q, vSelf2, vLc, wipeT, vNever, revQ, vRev, vParO, vRaise1, toldQ, vToldA, hide, hideS, vParO2, gSeqN, seqV, iSeqV, vLtT, ixoQ, vIndex, defQ, vCallL2, ixS, vToldM, inIQ, vInI, vInD, vRep, vIsB, vPar3O, vEqG, vNeG, cSortP, cZipL, vSs, vParOO, vMulZ, vAddS, cIntS, vNeL, vAppIf, vDGet2, gd2Q, dctQ, iRngL, rngLQ, vOrT, orK, vLRg1, lrg1Q, vSetCat, catO, vEqT, vLend, lendQ, vTLend, lendT, vSetLcO, lstO, vPar3P, vCallO, instQ, vRaise2, vPopG, popL, vToldB, hide, hideS, vRaise0, vSetD, vPutD, putDQ, putDK, vGetD, getDQ, getIQ, vDin, dinQ, iEnm, enumQ, enumT, vDctL, vDct, vDGet, dgQ, lkD, keyd, vSetRep, repO, vNeO, ite_tt, ite_ft, List.set, List.map, List.length, List.append, List.replicate, List.drop, List.nil_append, List.cons_append, List.append_nil, Nat.sub_self, Nat.reduceSub, List.replicate_zero, List.replicate_succ, Nat.reduceAdd, Bool.not_true, Bool.not_false, brE_true, brE_false, brT_true, brT_false, brS_true, brS_false, Bt.nm, vdraw, vpick, vten, vbegin, sp_is_integer, sp_is_whole, sp_need_integer, sp_need_positive, sp_need_step, sp_need_items, sp_is_step, crsT, sp_need_whole, sp_common_factor, sp_Course___init__, sp_Course___eq__, sp_Course___call__, sp_rests_of, sp_exchanged, sp_reaches, sp_first_step, sp_skipped, sp_parted_at, sp_first_apart, sp_line_of, sp_first_unlike, stmT, sp_Statement___init__, sp_Statement_is_silent, sp_Statement_first_sent, sp_folded, sp_raised, sp_sums_of, sp_floor_sums, oneT, othT, sp_total_of, sp_count_in, sp_Course_marks, sp_Course_spacing, sp_Course_turn, sp_Course_counted, sp_need_below, sp_Course_count, sp_is_level, sp_is_opposite, sp_marks_below, p2T, sp_sent_marks, sp_halves, sp_kept_marks, sp_sent_below, twoT, sp_Statement_turn, sp_Statement_is_parallel, sp_Statement_is_counted, sp_Statement_need_counted, sp_Statement_sent, sp_Statement_item_within, sp_Statement_sent_item, sp_Statement_next_sent, sp__law_great, sp__law_factor, sp__law_house, sp__law_course, sp__law_sent, sp__law_line, sp__law_lines, sp__law_step_right, sp__law_near_right, sp__law_call, sp__law_refused_right, fl_Course_houses, pt_Course_houses, fl_Course_run, pt_Course_run, fq_Course_1_0, fl_Course_start, pt_Course_start, fq_Course_2_0, fq_Course_2_1, fl_Course_rise, pt_Course_rise, fq_Course_3_0, fq_Course_3_1, fq_Course_3_2, nl_Course_marks, nl_Course_spacing, nl_Course_turn, nl_Course_counted, nl_Course_count, fl_Statement_target, pt_Statement_target, fl_Statement_source, pt_Statement_source, fq_Statement_1_0, nl_Statement_is_silent, nl_Statement_need_counted, nl_Statement_turn, nl_Statement_is_parallel, nl_Statement_is_counted, nl_Statement_sent, nl_Statement_sent_item, nl_Statement_item_within, nl_Statement_next_sent])
local macro_rules | `(tactic| walk_at "vc") => `(tactic| try dsimp only [vNext, vSeq, vBreak, vCont, vDrop, vRet, vRetN, vIfS, vSet, vFrz, frz, frzS, vSetOL, gNm, VL.gNil, VL.gCons, gTupN, vAsg, parQ, vPar, par3Q, vPar3, vFor, iLst, lstQ, VL.iTup, tupQ, VL.iRng1, rng1Q, VL.iRng2, rng2Q, vVar, vv, gt, vC, vOp, vUn, vI, vI0, vU, vEqS, isNonT, isNQ, vIsN, vbl, vIf, vAndV, vOrV, vNotV, vChain, vTest, vNot, vYes, vNo, vAnd, vOr, vNil, vCons, vTup, vLst, lkQ, fldC, vFldC, fldO, vFldO, vCall, methQ, vMeth, vMake, vBinII, vBinIZ, vNegOwn, vEqII, ends, endsI, oiQ, startT, startI, vCB, cInt, cAbs, c2I, cDivmod, cLen, cList, cTuple, cSum, cAll, cAny, cSorted, ixL, ixT, ixQ, oNone, oiQ2, oSome, slQ, vSlL, truT, truQ, vTru, augQ, augS, vAug, isBt, isQ, cIsB, isCQ, cIsC, isSeq, vIsSeq, vEqD, inSQ, vIn, appQ, vApp, setK, setQ, vSetI, popK, popQ, vPop, olQ, vLenO, vIxO, vTruO, fsQ, vFldS, putT, self2P, self2Q, vSelf2, vLc, wipeT, vNever, revQ, vRev, vParO, vRaise1, toldQ, vToldA, hide, hideS, vParO2, gSeqN, seqV, iSeqV, vLtT, ixoQ, vIndex, defQ, vCallL2, ixS, vToldM, inIQ, vInI, vInD, vRep, vIsB, vPar3O, vEqG, vNeG, cSortP, cZipL, vSs, vParOO, vMulZ, vAddS, cIntS, vNeL, vAppIf, vDGet2, gd2Q, dctQ, iRngL, rngLQ, vOrT, orK, vLRg1, lrg1Q, vSetCat, catO, vEqT, vLend, lendQ, vTLend, lendT, vSetLcO, lstO, vPar3P, vCallO, instQ, vRaise2, vPopG, popL, vToldB, hide, hideS, vRaise0, vSetD, vPutD, putDQ, putDK, vGetD, getDQ, getIQ, vDin, dinQ, iEnm, enumQ, enumT, vDctL, vDct, vDGet, dgQ, lkD, keyd, vSetRep, repO, vNeO, ite_tt, ite_ft, List.set, List.map, List.length, List.append, List.replicate, List.drop, List.nil_append, List.cons_append, List.append_nil, Nat.sub_self, Nat.reduceSub, List.replicate_zero, List.replicate_succ, Nat.reduceAdd, Bool.not_true, Bool.not_false, brE_true, brE_false, brT_true, brT_false, brS_true, brS_false, Bt.nm, vdraw, vpick, vten, vbegin, sp_is_integer, sp_is_whole, sp_need_integer, sp_need_positive, sp_need_step, sp_need_items, sp_is_step, crsT, sp_need_whole, sp_common_factor, sp_Course___init__, sp_Course___eq__, sp_Course___call__, sp_rests_of, sp_exchanged, sp_reaches, sp_first_step, sp_skipped, sp_parted_at, sp_first_apart, sp_line_of, sp_first_unlike, stmT, sp_Statement___init__, sp_Statement_is_silent, sp_Statement_first_sent, sp_folded, sp_raised, sp_sums_of, sp_floor_sums, oneT, othT, sp_total_of, sp_count_in, sp_Course_marks, sp_Course_spacing, sp_Course_turn, sp_Course_counted, sp_need_below, sp_Course_count, sp_is_level, sp_is_opposite, sp_marks_below, p2T, sp_sent_marks, sp_halves, sp_kept_marks, sp_sent_below, twoT, sp_Statement_turn, sp_Statement_is_parallel, sp_Statement_is_counted, sp_Statement_need_counted, sp_Statement_sent, sp_Statement_item_within, sp_Statement_sent_item, sp_Statement_next_sent, sp__law_great, sp__law_factor, sp__law_house, sp__law_course, sp__law_sent, sp__law_line, sp__law_lines, sp__law_step_right, sp__law_near_right, sp__law_call, sp__law_refused_right, fl_Course_houses, pt_Course_houses, fl_Course_run, pt_Course_run, fq_Course_1_0, fl_Course_start, pt_Course_start, fq_Course_2_0, fq_Course_2_1, fl_Course_rise, pt_Course_rise, fq_Course_3_0, fq_Course_3_1, fq_Course_3_2, nl_Course_marks, nl_Course_spacing, nl_Course_turn, nl_Course_counted, nl_Course_count, fl_Statement_target, pt_Statement_target, fl_Statement_source, pt_Statement_source, fq_Statement_1_0, nl_Statement_is_silent, nl_Statement_need_counted, nl_Statement_turn, nl_Statement_is_parallel, nl_Statement_is_counted, nl_Statement_sent, nl_Statement_sent_item, nl_Statement_item_within, nl_Statement_next_sent])
local macro_rules | `(tactic| walk_at "b") => `(tactic| first
  | with_reducible assumption
  | exact B.lit (k := 70) (by decide)
  | exact B.add (by walk_at "b") (by walk_at "b")
  | exact B.sub (by walk_at "b") (by walk_at "b")
  | exact B.neg (by walk_at "b")
  | exact B.mul (by walk_at "b") (by walk_at "b")
  | exact B.div (by walk_at "b")
  | exact B.mod (by walk_at "b") (by omega)
  | exact B.ite (by walk_at "b") (by walk_at "b")
  | exact B.ten _)
local macro_rules | `(tactic| walk_at "bb") => `(tactic| (with_reducible show B _ _; exact B.mono (by walk_at "b") (by first | decide | omega)))
local macro_rules | `(tactic| walk_at "sc") => `(tactic| first
  | with_reducible assumption
  | (with_reducible show (_ : Int) < 2 ^ 200; first | assumption | exact lt200 (by omega))
  | rfl
  | (show CMulA _ _; first | exact CMulA.s1 (by omega) (by omega) | exact CMulA.s2 (by omega) (by omega) | exact cmula (by walk_at "b") (by walk_at "b") (by first | decide | omega))
  | (show CDivW _ _; exact cdivw (by omega) (by walk_at "b") (by first | decide | omega))
  | (with_reducible show CDivP _ _; exact cdivp (by omega) (by walk_at "b") (by first | decide | omega))
  | (show CPow _ _; exact ⟨by decide, by decide, by decide⟩)
  | walk_at "bb"
  | omega
  | exact Nat.le_of_ble_eq_true rfl)
local macro_rules | `(tactic| walk_at "w") => `(tactic| (walk_at "v"; repeat ((first | refine And.intro (by walk_at "sc") ?_ | (with_reducible show Exists fun t => And (atI _ _ = some t) _; refine Exists.intro _ (And.intro rfl ?_))); walk_at "v")))

section
variable {P : Program} {w : World} {K : PySem.W.Frag} {mg : Str → Option Value} {base : Heap}
theorem okX_BadValue (T : Tx w K mg) : FnOk PR w K mg base CX0 1 T.f_BadValue___init__ T.fd_BadValue___init__ ["self", "value"] (spX1 T.C_BadValue "value") := by
  obtain ⟨oc, od, osl, kV, doc, pm, an, cda, ct, cc, ccl, cdd, ccs, vsC, file, tf, cl, cld, csl, cdC, e, lk, hcd, hcode, hvs, hfile, hcell, hC⟩ := T.X_BadValue.fn
  rw [e]
  refine sinit_ok (N := ["self", "value", "__class__"]) (k := 0) lk hcd hcode hvs hfile hcell hC T.X_BadValue.sub T.X_BadValue.sup T.X_BadValue.top T.X_BadValue.any T.X_BadValue.ini T.X_BadValue.ve T.X_BadValue.oex (nscope_by (by decide +kernel)) rfl rfl rfl (fun vs H Q E h => ?_) (fun L => rfl) (fun L => rfl) (fun L => rfl) (fun env => rfl) (fun env => rfl) (fun A outer s H vs Q E h => ?_)
  · obtain ⟨a, v, rfl, _⟩ := h
    rfl
  · obtain ⟨a, v, rfl, ha, q⟩ := h
    refine ⟨a, _, _, rfl, ha, pa_cons (pv 1) pa_nil, pss_one (ps_ost (pv 0) (pv 1)), ?_⟩
    refine ⟨v, rfl, Nat.le_of_ble_eq_true rfl, ha, v, rfl, .ref a, rfl, a, T.C_BadValue, rfl, T.X_BadValue.oex, T.X_BadValue.nof, .inl ⟨ha, fun dx nd ne => q dx nd ne⟩⟩

theorem ok_is_integer (T : Tx w K mg) : FnOk PR w K mg base (L2.CX PR w) 1 T.f_is_integer T.fd_is_integer ["value"] (lSp (gK T) 1 (sp_is_integer T)) := by
  refine ok_v (fun _ l b => T.F_is_integer.okX sc_is_integer l b) rfl (fun cdv A outer s H E F0 xq hr => ?_)
  refine ⟨_, (vss_one (vs_ret (ve_and (ve_callB (cv_isB .int rfl) (by rfl) T.z_isinstance (by decide +kernel) (va_cons (vpv 0) (va_cons (ve_opq (pe_bltn (v := .ty "int") (by rfl) T.z_int (by decide +kernel) rfl)) va_nil))) (ve_one (ve_not (ve_callB (cv_isB .bool rfl) (by rfl) T.z_isinstance (by decide +kernel) (va_cons (vpv 0) (va_cons (ve_opq (pe_bltn (v := .ty "bool") (by rfl) T.z_bool (by decide +kernel) rfl)) va_nil)))))))), fun ts n Q hl h => ?_⟩
  match ts, h with
  | [t], ⟨b, hb, h⟩ => cases t <;> (try cases hb) <;> walk_at "w" <;> exact h
theorem ok_is_whole (T : Tx w K mg) : FnOk PR w K mg base (L2.CX PR w) 2 T.f_is_whole T.fd_is_whole ["value"] (lSp (gK T) 1 (sp_is_whole T)) := by
  refine ok_v (fun _ l b => T.F_is_whole.okX sc_is_whole l b) rfl (fun cdv A outer s H E F0 xq hr => ?_)
  refine ⟨_, (vss_one (vs_ret (ve_and (ve_call (ok_is_integer T) (hr.mono (by decide)) (by rfl) T.g_is_integer T.F_is_integer.kp T.b_is_integer .nil (fun _ => .nil) hx_of (va_cons (vpv 0) va_nil)) (ve_one (ve_cmp ov_ge (vpv 0) ve_int (nomark _)))))), fun ts n Q hl h => ?_⟩
  match ts, h with
  | [t], ⟨b, hb, h⟩ =>
    cases t <;> (try cases hb) <;> walk_at "w" <;> refine ⟨_, rfl, ?_⟩ <;> walk_at "w" <;> exact h
theorem ok_need_integer (T : Tx w K mg) : FnOk PR w K mg base (L2.CX PR w) 4 T.f_need_integer T.fd_need_integer ["value"] (lSp (gK T) 1 (sp_need_integer T)) := by
  refine ok_v (fun _ l b => T.F_need_integer.okX sc_need_integer l b) rfl (fun cdv A outer s H E F0 xq hr => ?_)
  refine ⟨_, (vss_one (vs_if (vt_not (vt_val (ve_call (ok_is_integer T) (hr.mono (by decide)) (by rfl) T.g_is_integer T.F_is_integer.kp T.b_is_integer .nil (fun _ => .nil) hx_of (va_cons (vpv 0) va_nil)))) (vss_one (vs_raise1 (C := T.C_BadValue) (f := "value") (ps_raise rfl (takes_of rfl rfl rfl rfl) (pmk_oex T.X_BadValue.oex T.X_BadValue.iC T.X_BadValue.tI (okX_BadValue T) (hr.mono (by decide)) T.bX_BadValue .nil pass0 rfl T.gC_BadValue (pa_cons (vpv 0) pa_nil))))) vss_nil)), fun ts n Q hl h => ?_⟩
  match ts, h with
  | [t], h =>
    cases t <;> (try exact h.elim) <;> walk_at "w" <;> refine ⟨_, rfl, ?_⟩ <;> walk_at "w" <;> (try (show brS false _ _ _ _ _; walk_at "w")) <;> (try (show brS true _ _ _ _ _; walk_at "w")) <;> exact h
theorem okQ_t {b : Bool} {y z : Prop} (h : okQ (some b) y z) : (b = true → y) ∧ (b = false → z) := by
  cases b with
  | true => exact ⟨fun _ => h, (fun q => nomatch q)⟩
  | false => exact ⟨(fun q => nomatch q), fun _ => h⟩
theorem ok_need_whole (T : Tx w K mg) : FnOk PR w K mg base (L2.CX PR w) 4 T.f_need_whole T.fd_need_whole ["value"] (lSp (gK T) 1 (sp_need_whole T)) := by
  refine ok_v (fun _ l b => T.F_need_whole.okX sc_need_whole l b) rfl (fun cdv A outer s H E F0 xq hr => ?_)
  refine ⟨_, (vss_one (vs_if (vt_not (vt_val (ve_call (ok_is_whole T) (hr.mono (by decide)) (by rfl) T.g_is_whole T.F_is_whole.kp T.b_is_whole .nil (fun _ => .nil) hx_of (va_cons (vpv 0) va_nil)))) (vss_one (vs_raise1 (C := T.C_BadValue) (f := "value") (ps_raise rfl (takes_of rfl rfl rfl rfl) (pmk_oex T.X_BadValue.oex T.X_BadValue.iC T.X_BadValue.tI (okX_BadValue T) (hr.mono (by decide)) T.bX_BadValue .nil pass0 rfl T.gC_BadValue (pa_cons (vpv 0) pa_nil))))) vss_nil)), fun ts n Q hl h => ?_⟩
  match ts, h with
  | [t], h =>
    cases t with
    | int i =>
      obtain ⟨h1, h2⟩ := okQ_t h
      walk_at "w"
      refine ⟨_, rfl, ?_⟩
      refine brS_n (fun z => ?_) (fun z => ?_)
      · walk_at "w"
        exact h2 (decide_eq_false z)
      · exact h1 (decide_eq_true z)
    | _ => first | exact h.elim | (walk_at "w"; refine ⟨_, rfl, ?_⟩; walk_at "w"; (try (show brS true _ _ _ _ _; walk_at "w")); exact h)
theorem ten_pos (p : Nat) : (0 : Int) < 10 ^ p := Int.pow_pos (by decide)
theorem B.tn {p : Nat} (h : p ≤ 1300) : B 5300 ((10 : Int) ^ p) := (B.ten p).mono (by omega)

theorem okX_Unlike (T : Tx w K mg) : FnOk PR w K mg base CX0 1 T.f_Unlike___init__ T.fd_Unlike___init__ ["self", "one", "other"] (spX2 T.C_Unlike "one" "other") := by
  obtain ⟨oc, od, osl, kV, doc, pm, an, cda, ct, cc, ccl, cdd, ccs, vsC, file, tf, cl, cld, csl, cdC, e, lk, hcd, hcode, hvs, hfile, hcell, hC⟩ := T.X_Unlike.fn
  rw [e]
  refine sinit_ok (N := ["self", "one", "other", "__class__"]) (k := 0) lk hcd hcode hvs hfile hcell hC T.X_Unlike.sub T.X_Unlike.sup T.X_Unlike.top T.X_Unlike.any T.X_Unlike.ini T.X_Unlike.ve T.X_Unlike.oex (nscope_by (by decide +kernel)) rfl rfl rfl (fun vs H Q E h => ?_) (fun L => rfl) (fun L => rfl) (fun L => rfl) (fun env => rfl) (fun env => rfl) (fun A outer s H vs Q E h => ?_)
  · obtain ⟨a, v, u, rfl, _⟩ := h
    rfl
  · obtain ⟨a, v, u, rfl, ha, q⟩ := h
    refine ⟨a, _, _, rfl, ha, pa_cons (pv 1) (pa_cons (pv 2) pa_nil), pss_cons (ps_ost (pv 0) (pv 1)) (pss_one (ps_ost (pv 0) (pv 2))), ?_⟩
    refine ⟨v, rfl, u, rfl, Nat.le_of_ble_eq_true rfl, ha, v, rfl, .ref a, rfl, a, T.C_Unlike, rfl, T.X_Unlike.oex, T.X_Unlike.nof, .inl ⟨ha, fun dx nd ne => ?_⟩⟩
    refine ⟨u, rfl, .ref a, rfl, a, T.C_Unlike, rfl, T.X_Unlike.oex, T.xn2_Unlike, .inr ⟨dx, [("one", v)], upd_same, by rw [upd_ne ne, upd_same], Nat.le_of_ble_eq_true rfl, ?_⟩⟩
    rw [upd_two ne]
    exact q dx nd ne
theorem ok_need_positive (T : Tx w K mg) : FnOk PR w K mg base (L2.CX PR w) 4 T.f_need_positive T.fd_need_positive ["value"] (lSp (gK T) 1 (sp_need_positive T)) := by
  refine ok_v (fun _ l b => T.F_need_positive.okX sc_need_positive l b) rfl (fun cdv A outer s H E F0 xq hr => ?_)
  refine ⟨_, (vss_one (vs_if (PW.pt (vw_or (vt_not (vt_val (ve_call (ok_is_whole T) (hr.mono (by decide)) (by rfl) T.g_is_whole T.F_is_whole.kp T.b_is_whole .nil (fun _ => .nil) hx_of (va_cons (vpv 0) va_nil)))) (vw_or1 (vt_cmp ov_eqS (vpv 0) ve_int (nomark _))))) (vss_one (vs_raise1 (C := T.C_BadValue) (f := "value") (ps_raise rfl (takes_of rfl rfl rfl rfl) (pmk_oex T.X_BadValue.oex T.X_BadValue.iC T.X_BadValue.tI (okX_BadValue T) (hr.mono (by decide)) T.bX_BadValue .nil pass0 rfl T.gC_BadValue (pa_cons (vpv 0) pa_nil))))) vss_nil)), fun ts n Q hl h => ?_⟩
  match ts, h with
  | [t], h =>
    cases t with
    | int i =>
      obtain ⟨h1, h2⟩ := okQ_t h
      walk_at "w"
      refine ⟨_, rfl, ?_⟩
      by_cases z : 0 ≤ i
      · rw [decide_eq_true z]
        show brS (decide (i = 0)) _ _ _ _ _
        refine brS_d (fun e => ?_) (fun e => ?_)
        · walk_at "w"
          exact h2 (decide_eq_false (by omega))
        · exact h1 (decide_eq_true (by omega))
      · rw [decide_eq_false z]
        show brT true _ _ _ _ _
        walk_at "w"
        exact h2 (decide_eq_false (by omega))
    | _ => first | exact h.elim | (walk_at "w"; refine ⟨_, rfl, ?_⟩; walk_at "w"; (try (show brS true _ _ _ _ _; walk_at "w")); exact h)
theorem ok_need_below (T : Tx w K mg) : FnOk PR w K mg base (L2.CX PR w) 4 T.f_need_below T.fd_need_below ["value", "bound"] (lSp (gK T) 2 (sp_need_below T)) := by
  refine ok_v (fun _ l b => T.F_need_below.okX sc_need_below l b) rfl (fun cdv A outer s H E F0 xq hr => ?_)
  refine ⟨_, (vss_one (vs_if (PW.pt (vw_or (vt_not (vt_val (ve_call (ok_is_whole T) (hr.mono (by decide)) (by rfl) T.g_is_whole T.F_is_whole.kp T.b_is_whole .nil (fun _ => .nil) hx_of (va_cons (vpv 0) va_nil)))) (vw_or1 (vt_cmp ov_ge (vpv 0) (vpv 1) (nomark _))))) (vss_one (vs_raise1 (C := T.C_BadValue) (f := "value") (ps_raise rfl (takes_of rfl rfl rfl rfl) (pmk_oex T.X_BadValue.oex T.X_BadValue.iC T.X_BadValue.tI (okX_BadValue T) (hr.mono (by decide)) T.bX_BadValue .nil pass0 rfl T.gC_BadValue (pa_cons (vpv 0) pa_nil))))) vss_nil)), fun ts n Q hl h => ?_⟩
  match ts, h with
  | [t, .int j], h =>
    cases t with
    | int i =>
      obtain ⟨h1, h2⟩ := okQ_t h
      walk_at "w"
      refine ⟨_, rfl, ?_⟩
      by_cases z : 0 ≤ i
      · rw [decide_eq_true z] at h1 h2 ⊢
        show brS (decide (j ≤ i)) _ _ _ _ _
        refine brS_d (fun e => ?_) (fun e => ?_)
        · walk_at "w"
          exact h2 (by rw [decide_eq_true e]; rfl)
        · exact h1 (by rw [decide_eq_false e]; rfl)
      · rw [decide_eq_false z] at h1 h2 ⊢
        show brT true _ _ _ _ _
        walk_at "w"
        exact h2 rfl
    | _ => first | exact h.elim | (walk_at "w"; refine ⟨_, rfl, ?_⟩; walk_at "w"; (try (show brS true _ _ _ _ _; walk_at "w")); exact h)

end
open PySem L2 DS VL NdefX MT
set_option pp.maxSteps 2000

section
variable {P : Program} {w : World} {K : PySem.W.Frag} {mg : Str → Option Value} {base : Heap}
theorem ok_folded (T : Tx w K mg) : FnOk PR w K mg base (L2.CX PR w) 1 T.f_folded T.fd_folded ["many", "top", "inner"] (lSp (gK T) 3 (sp_folded T)) := by
  refine ok_v (fun _ l b => T.F_folded.okX sc_folded l b) rfl (fun cdv A outer s H E F0 xq hr => ?_)
  refine ⟨_, (vss_cons (vs_asg (vs := [3, 4, 5]) (vpv 2) (vg_tup (m := 3) rfl rfl (vgs_cons (vg_name (i := 3) (by decide) sc_folded.nd rfl (Or.inl rfl)) (vgs_cons (vg_name (i := 4) (by decide) sc_folded.nd rfl (Or.inl rfl)) (vgs_cons (vg_name (i := 5) (by decide) sc_folded.nd rfl (Or.inl rfl)) vgs_nil)))))
      (vss_cons (vs_set (i := 6) sc_folded.nd rfl (Or.inl rfl) (ve_op ov_sub (vpv 0) ve_int))
      (vss_cons (vs_set (i := 7) sc_folded.nd rfl (Or.inl rfl) (ve_op ov_sub (ve_op ov_mul (vpv 6) (vpv 1)) (vpv 3)))
      (vss_cons (vs_set (i := 8) sc_folded.nd rfl (Or.inl rfl) (ve_op ov_fdiv (ve_op ov_sub (ve_op ov_sub (ve_op ov_mul (ve_op ov_mul (vpv 1) (vpv 6)) (vpv 0)) (vpv 5)) (vpv 3)) ve_int))
      (vss_one (vs_ret (ve_tup (va_cons (vpv 7) (va_cons (vpv 8) (va_cons (ve_op ov_sub (ve_op ov_sub (ve_op ov_sub (ve_op ov_mul (ve_op ov_mul (vpv 6) (vpv 1)) (ve_op ov_add (vpv 1) ve_int)) (ve_op ov_mul ve_int (vpv 4))) (ve_op ov_mul ve_int (vpv 3))) (vpv 7)) va_nil)))))))))), fun ts n Q hl h => ?_⟩
  match ts, h with
  | [.int m, .int t, .tup [.int x, .int y, .int z]], ⟨mB, tB, xB, yB, zB, h⟩ =>
    walk_at "w"
    exact h
theorem ok_raised (T : Tx w K mg) : FnOk PR w K mg base (L2.CX PR w) 1 T.f_raised T.fd_raised ["many", "rise", "start", "sums"] (lSp (gK T) 4 (sp_raised T)) := by
  refine ok_v (fun _ l b => T.F_raised.okX sc_raised l b) rfl (fun cdv A outer s H E F0 xq hr => ?_)
  refine ⟨_, (vss_cons (vs_asg (vs := [4, 5, 6]) (vpv 3) (vg_tup (m := 3) rfl rfl (vgs_cons (vg_name (i := 4) (by decide) sc_raised.nd rfl (Or.inl rfl)) (vgs_cons (vg_name (i := 5) (by decide) sc_raised.nd rfl (Or.inl rfl)) (vgs_cons (vg_name (i := 6) (by decide) sc_raised.nd rfl (Or.inl rfl)) vgs_nil)))))
      (vss_cons (vs_par2 (i := 7) (j := 8) (ps_par (i := 7) (j := 8) rfl sc_raised.nd rfl rfl (by decide) rfl rfl (va_cons (ve_op ov_fdiv (ve_op ov_mul (vpv 0) (ve_op ov_sub (vpv 0) ve_int)) ve_int) (va_cons (ve_op ov_fdiv (ve_op ov_mul (ve_op ov_mul (ve_op ov_sub (vpv 0) ve_int) (vpv 0)) (ve_op ov_sub (ve_op ov_mul ve_int (vpv 0)) ve_int)) ve_int) va_nil)) rfl))
      (vss_cons (vs_set (i := 9) sc_raised.nd rfl (Or.inl rfl) (ve_op ov_add (ve_op ov_add (ve_op ov_mul (ve_op ov_mul (vpv 1) (vpv 1)) (vpv 8)) (ve_op ov_mul (ve_op ov_mul (vpv 2) (vpv 2)) (vpv 0))) (ve_op ov_mul (ve_op ov_mul (ve_op ov_mul ve_int (vpv 1)) (vpv 2)) (vpv 7))))
      (vss_one (vs_ret (ve_tup (va_cons (ve_op ov_add (ve_op ov_add (vpv 4) (ve_op ov_mul (vpv 1) (vpv 7))) (ve_op ov_mul (vpv 2) (vpv 0))) (va_cons (ve_op ov_add (ve_op ov_add (vpv 5) (ve_op ov_mul (vpv 1) (vpv 8))) (ve_op ov_mul (vpv 2) (vpv 7))) (va_cons (ve_op ov_add (ve_op ov_add (ve_op ov_add (vpv 6) (vpv 9)) (ve_op ov_mul (ve_op ov_mul ve_int (vpv 1)) (vpv 5))) (ve_op ov_mul (ve_op ov_mul ve_int (vpv 2)) (vpv 4))) va_nil))))))))), fun ts n Q hl h => ?_⟩
  match ts, h with
  | [.int m, .int q, .int p, .tup [.int x, .int y, .int z]], ⟨mB, qB, pB, xB, yB, zB, h⟩ =>
    walk_at "w"
    exact h
def stT4 (x : Int × Int × Int × Int) : Tr := .tup [.int x.1, .int x.2.1, .int x.2.2.1, .int x.2.2.2]
theorem ok_sums_of (T : Tx w K mg) : FnOk PR w K mg base (L2.CX PR w) 2 T.f_sums_of T.fd_sums_of ["many", "run", "rise", "start"] (lSp (gK T) 4 (sp_sums_of T)) := by
  refine ok_v (fun _ l b => T.F_sums_of.okX sc_sums_of l b) rfl (fun cdv A outer s H E F0 xq hr => ?_)
  refine ⟨_, (vss_cons (vs_parO (i := 4) (j := 5) (ps_par (i := 4) (j := 5) rfl sc_sums_of.nd rfl rfl (by decide) rfl rfl (pa_cons (pe_lst va_nil) (pa_cons (ve_tup (va_cons ve_int (va_cons ve_int (va_cons ve_int va_nil)))) pa_nil)) rfl))
      (vss_cons (vs_while own_of (vt_cmp ov_gt (vpv 0) ve_int (nomark _)) (vss_cons (vs_set (i := 6) sc_sums_of.nd rfl (Or.inl rfl) (ve_op ov_fdiv (ve_op ov_add (ve_op ov_mul (ve_op ov_mod (vpv 2) (vpv 1)) (ve_op ov_sub (vpv 0) ve_int)) (ve_op ov_mod (vpv 3) (vpv 1))) (vpv 1)))
      (vss_cons (vs_app (i := 4) (ps_expr (pe_bm PySem.F.plainAttrs_list PySem.F.slot_list_append PySem.F.type_list_append mt_append (pv 4) (pa_cons (ve_tup (va_cons (vpv 0) (va_cons (ve_op ov_fdiv (vpv 2) (vpv 1)) (va_cons (ve_op ov_fdiv (vpv 3) (vpv 1)) (va_cons (vpv 6) va_nil))))) pa_nil))))
      (vss_one (vs_asg (vs := [0, 1, 2, 3]) (ve_tup (va_cons (vpv 6) (va_cons (ve_op ov_mod (vpv 2) (vpv 1)) (va_cons (vpv 1) (va_cons (ve_op ov_sub (ve_op ov_sub (vpv 1) (ve_op ov_mod (vpv 3) (vpv 1))) ve_int) va_nil))))) (vg_tup (m := 4) rfl rfl (vgs_cons (vg_name (i := 0) (by decide) sc_sums_of.nd rfl (Or.inl rfl)) (vgs_cons (vg_name (i := 1) (by decide) sc_sums_of.nd rfl (Or.inl rfl)) (vgs_cons (vg_name (i := 2) (by decide) sc_sums_of.nd rfl (Or.inl rfl)) (vgs_cons (vg_name (i := 3) (by decide) sc_sums_of.nd rfl (Or.inl rfl)) vgs_nil))))))))))
      (vss_frz 4 (vss_cons (vs_for (vs := [7, 8, 9, 6]) own_of rfl (vi_list rfl (ve_rev (vpv 4))) (vg_tup (m := 4) rfl rfl (vgs_cons (vg_name (i := 7) (by decide) sc_sums_of.nd rfl (Or.inl rfl)) (vgs_cons (vg_name (i := 8) (by decide) sc_sums_of.nd rfl (Or.inl rfl)) (vgs_cons (vg_name (i := 9) (by decide) sc_sums_of.nd rfl (Or.inl rfl)) (vgs_cons (vg_name (i := 6) (by decide) sc_sums_of.nd rfl (Or.inl rfl)) vgs_nil)))))
      (vss_one (vs_set (i := 5) sc_sums_of.nd rfl (Or.inl rfl) (ve_call (ok_raised T) (hr.mono (by decide)) (by rfl) T.g_raised T.F_raised.kp T.b_raised .nil (fun _ => .nil) hx_of (va_cons (vpv 7) (va_cons (vpv 8) (va_cons (vpv 9) (va_cons (ve_call (ok_folded T) (hr.mono (by decide)) (by rfl) T.g_folded T.F_folded.kp T.b_folded .nil (fun _ => .nil) hx_of (va_cons (vpv 7) (va_cons (vpv 6) (va_cons (vpv 5) va_nil)))) va_nil))))))))
      (vss_one (vs_ret (vpv 5))))))), fun ts n Q hl h => ?_⟩
  match ts, h with
  | [.int m, .int r, .int a, .int b], ⟨m0, r0, mB, rB, aB, bB, h⟩ =>
    walk_at "w"
    refine ⟨fun k n' ρ => ∃ l m' r' a' b' tp, n' = n ∧ k = Int.toNat m' ∧ Ch 1500 m r a b l m' r' a' b' ∧ ρ = [.v (.int m'), .v (.int r'), .v (.int a'), .v (.int b'), .ol (l.map stT4), .v (.tup [.int 0, .int 0, .int 0]), tp, .un, .un, .un], ⟨_, [], m, r, a, b, .un, rfl, rfl, .nil m0 (fun _ => r0) mB rB aB bB, rfl⟩, ?_⟩
    rintro k n' ρ ⟨l, m', r', a', b', tp, rfl, rfl, c, rfl⟩
    obtain ⟨c1, c2, c3, c4, c5, c6⟩ := c.ok
    walk_at "v"
    by_cases p : 0 < m'
    · rw [if_pos (decide_eq_true p)]
      have c7 := c2 p
      have c8 := c.len p
      have c9 := top_lt (a := a') (b := b') p c7
      have cs : (List.map stT4 l).length < sizeLine := by rw [List.length_map]; exact Nat.lt_of_le_of_lt c8 (by decide)
      walk_at "w"
      exact ⟨_, (by omega), _, _, _, _, _, _, rfl, rfl, c.snoc p, by rw [List.map_append]; rfl⟩
    · rw [if_neg (by simp; omega)]
      walk_at "w"
      have z : m' = 0 := by omega
      subst z
      rw [← List.map_reverse]
      refine for_rem stT4 (fun rem n1 ρ => ∃ l m' r' a' b' s0 s1 s2 s3 s4 s6 s7 s8 s9, n1 = n' ∧ rem = List.reverse l ∧ Ch 1500 m r a b l m' r' a' b' ∧ ρ = [s0, s1, s2, s3, s4, .v (.tup [.int (f1 r' a' b' m'.toNat), .int (f2 r' a' b' m'.toNat), .int (f3 r' a' b' m'.toNat)]), s6, s7, s8, s9]) ?_ ?_ ⟨l, 0, r', a', b', _, _, _, _, _, _, _, _, _, rfl, rfl, c, rfl⟩
      · rintro x rem n1 ρ ⟨l, m', r', a', b', s0, s1, s2, s3, s4, s6, s7, s8, s9, rfl, el, c, rfl⟩ K' hK
        have el2 : l = rem.reverse ++ [x] := by rw [← List.reverse_reverse l, ← el, List.reverse_cons]
        subst el2
        obtain ⟨m2, r2, a2, b2, c', hm, rfl, e1, e2, e3, e4⟩ := c.last
        obtain ⟨d1, d2, d3, d4, d5, d6⟩ := c.ok
        obtain ⟨g1, g2, g3, g4, g5, g6⟩ := c'.ok
        have d7 : B 1500 ((m'.toNat : Nat) : Int) := by rw [Int.toNat_of_nonneg d1]; exact d3
        have x1 := B.f1 (r := r') d7 d5 d6
        have x2 := B.f2 (r := r') d7 d5 d6
        have x3 := B.f3 (r := r') d7 d5 d6
        have lv := level hm (g2 hm) e1 (x1 := f1 r' a' b' m'.toNat) (x2 := f2 r' a' b' m'.toNat) (x3 := f3 r' a' b' m'.toNat) (by rw [e2, e3, e4]) (by rw [e2, e3, e4]) (by rw [e2, e3, e4])
        show gTupN _ _ (.tup [.int m2, .int (a2 / r2), .int (b2 / r2), .int m']) _ _ _
        walk_at "w"
        rw [← lv.1, ← lv.2.1, ← lv.2.2]
        exact hK _ _ ⟨rem.reverse, m2, r2, a2, b2, _, _, _, _, _, _, _, _, _, rfl, (List.reverse_reverse _).symm, c', rfl⟩
      · rintro n1 ρ ⟨l, m', r', a', b', s0, s1, s2, s3, s4, s6, s7, s8, s9, rfl, el, c, rfl⟩
        have el2 : l = [] := by rw [← List.reverse_reverse l, ← el]; rfl
        subst el2
        obtain ⟨rfl, rfl, rfl, rfl⟩ := c.nil_eq
        walk_at "w"
        exact h
theorem okQ_mono {o : Option Bool} {y y' z : Prop} (h : okQ o y z) (g : y → y') : okQ o y' z := by
  cases o with
  | none => exact h
  | some b => cases b with
    | true => exact g h
    | false => exact h
theorem ok_floor_sums (T : Tx w K mg) : FnOk PR w K mg base (L2.CX PR w) 5 T.f_floor_sums T.fd_floor_sums ["many", "run", "rise", "start"] (lSp (gK T) 4 (sp_floor_sums T)) := by
  refine ok_v (fun _ l b => T.F_floor_sums.okX sc_floor_sums l b) rfl (fun cdv A outer s H E F0 xq hr => ?_)
  refine ⟨_, (vss_cons (vs_expr (ve_call (ok_need_whole T) (hr.mono (by decide)) (by rfl) T.g_need_whole T.F_need_whole.kp T.b_need_whole .nil (fun _ => .nil) hx_of (va_cons (vpv 0) va_nil)))
      (vss_cons (vs_expr (ve_call (ok_need_positive T) (hr.mono (by decide)) (by rfl) T.g_need_positive T.F_need_positive.kp T.b_need_positive .nil (fun _ => .nil) hx_of (va_cons (vpv 1) va_nil)))
      (vss_cons (vs_expr (ve_call (ok_need_integer T) (hr.mono (by decide)) (by rfl) T.g_need_integer T.F_need_integer.kp T.b_need_integer .nil (fun _ => .nil) hx_of (va_cons (vpv 2) va_nil)))
      (vss_cons (vs_expr (ve_call (ok_need_integer T) (hr.mono (by decide)) (by rfl) T.g_need_integer T.F_need_integer.kp T.b_need_integer .nil (fun _ => .nil) hx_of (va_cons (vpv 3) va_nil)))
      (vss_one (vs_ret (ve_call (ok_sums_of T) (hr.mono (by decide)) (by rfl) T.g_sums_of T.F_sums_of.kp T.b_sums_of .nil (fun _ => .nil) hx_of (va_cons (vpv 0) (va_cons (vpv 1) (va_cons (vpv 2) (va_cons (vpv 3) va_nil))))))))))), fun ts n Q hl h => ?_⟩
  match ts, h with
  | [tm, tr, ta, tb], h =>
    walk_at "w"
    refine okQ_mono h fun h1 => ⟨rfl, okQ_mono h1 fun h2 => ⟨rfl, okQ_mono h2 fun h3 => ⟨rfl, okQ_mono h3 fun ⟨m, r, a, b, e1, e2, e3, e4, m0, r0, mB, rB, aB, bB, h4⟩ => ?_⟩⟩⟩
    subst e1; subst e2; subst e3; subst e4
    exact ⟨rfl, m0, r0, mB, rB, aB, bB, h4⟩
end
open PySem L2 DS VL NdefX MT
set_option pp.maxSteps 2000

section
variable {P : Program} {w : World} {K : PySem.W.Frag} {mg : Str → Option Value} {base : Heap}
theorem brS_jn {k : Bool} {A B : RS} {D : VEnds} {n : Nat} {ρ : List Sl} (I : Nat → List Sl → Prop) (h1 : ∀ K, (∀ n ρ, I n ρ → K n ρ) → brS k A B { D with nx := K } n ρ) (h2 : ∀ n ρ, I n ρ → D.nx n ρ) : brS k A B D n ρ := h1 D.nx h2
theorem brE_jn {p : Prop} [Decidable p] {t u : RE} {n : Nat} {ρ : List Sl} {Q : VQ} (I : Tr → Nat → Prop) (h1 : p → ∀ R : VQ, (∀ t n, I t n → R t n) → t n ρ R) (h2 : ¬ p → ∀ R : VQ, (∀ t n, I t n → R t n) → u n ρ R) (q : ∀ t n, I t n → Q t n) : brE (decide p) t u n ρ Q := brE_d (fun z => h1 z Q q) (fun z => h2 z Q q)
theorem atI_at {α : Type} {xs : List α} {j : Nat} {i : Int} {t : α} (e : i = j) (h : xs[j]? = some t) : atI xs i = some t := by
  have hj : j < xs.length := by
    rcases Nat.lt_or_ge j xs.length with q | q
    · exact q
    · rw [List.getElem?_eq_none q] at h; cases h
  subst e
  unfold atI ixN
  rw [if_pos (by omega), if_pos (by omega)]
  exact h
theorem gcd_step {x y : Int} (hy : 0 < y) : Int.gcd y (x % y) = Int.gcd x y := by
  have e := Int.emod_add_mul_ediv x y
  rw [Int.gcd_comm, show x % y = x + y * (-(x / y)) by rw [Int.mul_neg]; omega]
  exact Int.gcd_add_mul_left_left ..
theorem ok_common_factor (T : Tx w K mg) : FnOk PR w K mg base (L2.CX PR w) 1 T.f_common_factor T.fd_common_factor ["one", "other"] (lSp (gK T) 2 (sp_common_factor T)) := by
  refine ok_v (fun _ l b => T.F_common_factor.okX sc_common_factor l b) rfl (fun cdv A outer s H E F0 xq hr => ?_)
  refine ⟨_, (vss_cons (vs_while own_of (vt_cmp ov_gt (vpv 1) ve_int (nomark _)) (vss_one (vs_par2 (i := 0) (j := 1) (ps_par (i := 0) (j := 1) rfl sc_common_factor.nd rfl rfl (by decide) rfl rfl (va_cons (vpv 1) (va_cons (ve_op ov_mod (vpv 0) (vpv 1)) va_nil)) rfl))))
      (vss_one (vs_ret (vpv 0)))), fun ts n Q hl h => ?_⟩
  match ts, h with
  | [.int a, .int b], ⟨b0, ab, h⟩ =>
    walk_at "w"
    refine ⟨fun k n' ρ => ∃ x y : Int, n' = n ∧ k = y.toNat ∧ 0 ≤ y ∧ (0 < y ∨ 0 ≤ x) ∧ Int.gcd x y = Int.gcd a b ∧ ρ = [.v (.int x), .v (.int y)], ⟨_, a, b, rfl, rfl, b0, ab, rfl, rfl⟩, ?_⟩
    rintro k n' ρ ⟨x, y, rfl, rfl, y0, xy, g, rfl⟩
    walk_at "v"
    by_cases p : 0 < y
    · rw [if_pos (decide_eq_true p)]
      walk_at "w"
      have m0 := Int.emod_nonneg x (Int.ne_of_gt p)
      have m1 := Int.emod_lt_of_pos x p
      exact ⟨_, (by omega), y, x % y, rfl, rfl, m0, .inr y0, by rw [gcd_step p, g], rfl⟩
    · have : y = 0 := by omega
      subst this
      rw [if_neg (by simp)]
      walk_at "w"
      rw [← g, Int.gcd_zero_right] at h
      rw [show x = ((x.natAbs : Nat) : Int) by omega]
      exact h
theorem okQ_T {o : Option Bool} {y z : Prop} (e : o = some true) (h : y) : okQ o y z := by rw [e]; exact h
theorem okQ_F {o : Option Bool} {y z : Prop} (e : o = some false) (h : z) : okQ o y z := by rw [e]; exact h
theorem pos_T {i : Int} (h : 0 < i) : isPosT (.int i) = some true := congrArg some (decide_eq_true h)
theorem wh_T {i : Int} (h : 0 ≤ i) : isWhT (.int i) = some true := congrArg some (decide_eq_true h)
theorem ok_Course___init__ (T : Tx w K mg) : FnOk PR w K mg base (L2.CX PR w) 5 T.f_Course___init__ T.fd_Course___init__ ["self", "houses", "start", "rise", "run"] (lIp (gK T) T.C_Course 4 (sp_Course___init__ T)) := by
  refine ok_vi (fun _ l b => T.F_Course___init__.okX sc_Course___init__ l b) rfl (by decide) (fun cdv A outer s H0 H E F0 xq hr => ?_)
  refine ⟨_, (vss_cons (vs_expr (ve_call (ok_need_positive T) (hr.mono (by decide)) (by rfl) T.g_need_positive T.F_need_positive.kp T.b_need_positive .nil (fun _ => .nil) hx_of (va_cons (vpv 1) va_nil)))
      (vss_cons (vs_expr (ve_call (ok_need_integer T) (hr.mono (by decide)) (by rfl) T.g_need_integer T.F_need_integer.kp T.b_need_integer .nil (fun _ => .nil) hx_of (va_cons (vpv 2) va_nil)))
      (vss_cons (vs_expr (ve_call (ok_need_integer T) (hr.mono (by decide)) (by rfl) T.g_need_integer T.F_need_integer.kp T.b_need_integer .nil (fun _ => .nil) hx_of (va_cons (vpv 3) va_nil)))
      (vss_cons (vs_expr (ve_call (ok_need_positive T) (hr.mono (by decide)) (by rfl) T.g_need_positive T.F_need_positive.kp T.b_need_positive .nil (fun _ => .nil) hx_of (va_cons (vpv 4) va_nil)))
      (vss_cons (vs_if (vt_cmp ov_neS (ve_call (ok_common_factor T) (hr.mono (by decide)) (by rfl) T.g_common_factor T.F_common_factor.kp T.b_common_factor .nil (fun _ => .nil) hx_of (va_cons (vpv 4) (va_cons (ve_callB cv_abs (by rfl) T.z_abs (by decide +kernel) (va_cons (vpv 3) va_nil)) va_nil))) ve_int (nomark _)) (vss_one (vs_raise1 (C := T.C_BadValue) (f := "value") (ps_raise rfl (takes_of rfl rfl rfl rfl) (pmk_oex T.X_BadValue.oex T.X_BadValue.iC T.X_BadValue.tI (okX_BadValue T) (hr.mono (by decide)) T.bX_BadValue .nil pass0 rfl T.gC_BadValue (pa_cons (vpv 4) pa_nil))))) vss_nil)
      (vss_cons (vs_fldS (C := T.C_Course) (i := 0) rfl T.n_Course_houses (ps_fld (pv 0) (vpv 1) rfl))
      (vss_cons (vs_fldS (C := T.C_Course) (i := 0) rfl T.n_Course_run (ps_fld (pv 0) (ve_ifExp (vt_cmp ov_gt (vpv 1) ve_int (nomark _)) (vpv 4) ve_int) rfl))
      (vss_cons (vs_set (i := 5) sc_Course___init__.nd rfl (Or.inl rfl) (ve_op ov_mul (ve_fldO (C := T.C_Course) (i := 0) rfl T.n_Course_run rfl (.inl rfl) rfl) (vpv 1)))
      (vss_cons (vs_set (i := 6) sc_Course___init__.nd rfl (Or.inl rfl) (ve_and (ve_cmp ov_eqS (vpv 1) ve_int (nomark _)) (ve_one (ve_cmp ov_gt (ve_op ov_mod (vpv 3) (vpv 5)) (vpv 4) (nomark _)))))
      (vss_cons (vs_fldS (C := T.C_Course) (i := 0) rfl T.n_Course_start (ps_fld (pv 0) (ve_op ov_mod (ve_ifExp (vt_val (vpv 6)) (ve_op ov_sub (ve_op ov_sub (vpv 4) ve_int) (vpv 2)) (vpv 2)) (vpv 5)) rfl))
      (vss_one (vs_fldS (C := T.C_Course) (i := 0) rfl T.n_Course_rise (ps_fld (pv 0) (ve_op ov_mod (ve_ifExp (vt_val (vpv 6)) (ve_un VL.un_neg (vpv 3)) (vpv 3)) (vpv 5)) rfl))))))))))))), fun ts n Q y dy hl h => ?_⟩
  match ts, h with
  | [.int k, .int s, .int r, .int R], ⟨h0, r0, hB, rB, g, h⟩ =>
    walk_at "w"
    have g' : Int.gcd R (if r < 0 then -r else r) = 1 := by
      split
      · rw [Int.gcd_neg, Int.gcd_comm, g]
      · rw [Int.gcd_comm, g]
    refine okQ_T (pos_T h0) ⟨rfl, okQ_T rfl ⟨rfl, okQ_T rfl ⟨rfl, okQ_T (pos_T r0) ⟨rfl, by split <;> omega, .inr (Int.le_of_lt r0), ?_⟩⟩⟩⟩
    refine brS_n (fun z => absurd (by rw [g']; rfl) z) (fun _ => ?_)
    walk_at "w"
    by_cases hk : 1 < k
    · have e1 : nR R k = R := if_pos hk
      have p := Int.mul_pos r0 h0
      refine brE_d (fun _ => ?_) (fun z => absurd hk z)
      walk_at "w"
      refine brE_d (fun h2 => ?_) (fun h2 => ?_)
      · walk_at "w"
        refine brE_d (fun h3 => ?_) (fun h3 => ?_)
        · have t : tnd R k r := ⟨h2, by rw [e1]; exact h3⟩
          walk_at "w"
          refine brE_d (fun _ => ?_) (fun z => absurd h3 z)
          walk_at "w"
          unfold nS nr at h
          rw [if_pos t, if_pos t, e1] at h
          exact h
        · have t : ¬ tnd R k r := fun z => h3 (by have := z.2; rw [e1] at this; exact this)
          walk_at "w"
          refine brE_d (fun z => absurd z h3) (fun _ => ?_)
          walk_at "w"
          unfold nS nr at h
          rw [if_neg t, if_neg t, e1] at h
          exact h
      · have t : ¬ tnd R k r := fun z => h2 z.1
        walk_at "w"
        unfold nS nr at h
        rw [if_neg t, if_neg t, e1] at h
        exact h
    · have e1 : nR R k = 1 := if_neg hk
      have e2 : k = 1 := by omega
      subst e2
      have t : ¬ tnd R 1 r := fun z => absurd z.1 (by decide)
      refine brE_d (fun z => absurd z hk) (fun _ => ?_)
      walk_at "w"
      unfold nS nr at h
      rw [if_neg t, if_neg t, e1] at h
      exact h
theorem d4 (a b c d : Int) : okD (.tup [.int a, .int b, .int c, .int d]) := (okK.tup (k := 0) (.cons (.int _) (.cons (.int _) (.cons (.int _) (.cons (.int _) .nil))))).okD
theorem eqT_4 (a b c d a' b' c' d' : Int) : eqT (.tup [.int a, .int b, .int c, .int d]) (.tup [.int a', .int b', .int c', .int d']) = decide (a = a' ∧ b = b' ∧ c = c' ∧ d = d') := by
  rw [show [Tr.int a, .int b, .int c, .int d] = [a, b, c, d].map Tr.int from rfl, show [Tr.int a', .int b', .int c', .int d'] = [a', b', c', d'].map Tr.int from rfl]
  refine (eqT_tup _ _).trans ((eqT_ints _ _).trans (decide_eq_decide.mpr ?_))
  simp
theorem ok_Course___eq__ (T : Tx w K mg) : FnOk PR w K mg base (L2.CX PR w) 1 T.f_Course___eq__ T.fd_Course___eq__ ["self", "other"] (lSp (gK T) 2 (sp_Course___eq__ T)) := by
  refine ok_v (fun _ l b => T.F_Course___eq__.okX sc_Course___eq__ l b) rfl (fun cdv A outer s H E F0 xq hr => ?_)
  refine ⟨_, (vss_cons (vs_if (vt_not (vt_val (ve_callB (cv_isC rfl T.ic_Course) (by rfl) T.z_isinstance (by decide +kernel) (va_cons (vpv 1) (va_cons (ve_opq (pe_glob (v := .ref T.C_Course) (by rfl) T.gC_Course rfl)) va_nil))))) (vss_one (vs_ret ve_bl)) vss_nil)
      (vss_one (vs_ret (ve_cmp (ov_eqD rfl (hu64_of hr)) (ve_tup (va_cons (ve_fld (C := T.C_Course) rfl T.n_Course_houses (vpv 0) rfl) (va_cons (ve_fld (C := T.C_Course) rfl T.n_Course_start (vpv 0) rfl) (va_cons (ve_fld (C := T.C_Course) rfl T.n_Course_rise (vpv 0) rfl) (va_cons (ve_fld (C := T.C_Course) rfl T.n_Course_run (vpv 0) rfl) va_nil))))) (ve_tup (va_cons (ve_fld (C := T.C_Course) rfl T.n_Course_houses (vpv 1) rfl) (va_cons (ve_fld (C := T.C_Course) rfl T.n_Course_start (vpv 1) rfl) (va_cons (ve_fld (C := T.C_Course) rfl T.n_Course_rise (vpv 1) rfl) (va_cons (ve_fld (C := T.C_Course) rfl T.n_Course_run (vpv 1) rfl) va_nil))))) (nomark _))))), fun ts n Q hl h => ?_⟩
  match ts, h with
  | [t, u], ⟨H1, R, s, r, H2, R', s', r', e1, e2, h⟩ =>
    subst e1
    subst e2
    walk_at "w"
    rw [eqT_4]
    exact ⟨d4 .., d4 .., h⟩
theorem ok_Course___call__ (T : Tx w K mg) : FnOk PR w K mg base (L2.CX PR w) 5 T.f_Course___call__ T.fd_Course___call__ ["self", "k"] (lSp (gK T) 2 (sp_Course___call__ T)) := by
  refine ok_v (fun _ l b => T.F_Course___call__.okX sc_Course___call__ l b) rfl (fun cdv A outer s H E F0 xq hr => ?_)
  refine ⟨_, (vss_cons (vs_expr (ve_call (ok_need_whole T) (hr.mono (by decide)) (by rfl) T.g_need_whole T.F_need_whole.kp T.b_need_whole .nil (fun _ => .nil) hx_of (va_cons (vpv 1) va_nil)))
      (vss_one (vs_ret (ve_op ov_mod (ve_op ov_fdiv (ve_op ov_add (ve_fld (C := T.C_Course) rfl T.n_Course_start (vpv 0) rfl) (ve_op ov_mul (ve_fld (C := T.C_Course) rfl T.n_Course_rise (vpv 0) rfl) (vpv 1))) (ve_fld (C := T.C_Course) rfl T.n_Course_run (vpv 0) rfl)) (ve_fld (C := T.C_Course) rfl T.n_Course_houses (vpv 0) rfl))))), fun ts n Q hl h => ?_⟩
  match ts, h with
  | [t, .int k], ⟨H0, R, s, r, e, ok, k0, kB, h⟩ =>
    subst e
    have R0 := ok.nf.R0
    have h0 := ok.nf.h0
    have rB : B 300 r := B.le ((ok.rB.mul ok.hB).mono (by decide)) ok.nf.r0 (Int.le_of_lt ok.nf.rM)
    have c1 : CMulA r k := cmula rB kB (by decide)
    have c2 : CDivW (s + r * k) R := cdivw R0 ok.rB (by decide)
    walk_at "w"
    refine okQ_T (wh_T k0) ?_
    repeat (refine And.intro rfl ?_)
    refine ⟨c1, rfl, c2, rfl, h0, h⟩
theorem OkR.bs {l : L3} (o : OkR l) : DS.B 300 l.1 ∧ DS.B 300 l.2.1 := ⟨o.B.le o.s0 (Int.le_of_lt o.sR), o.B.le o.r0 (Int.le_of_lt o.rR)⟩
end
open PySem L2 DS VL NdefX MT
set_option pp.maxSteps 2000

section
variable {P : Program} {w : World} {K : PySem.W.Frag} {mg : Str → Option Value} {base : Heap}
theorem brT_or {c : Prop} [Decidable c] {t : RT} {n : Nat} {ρ : List Sl} {C : Bool → Nat → Prop} (v : Bool) (h : ¬ c → ∀ K : Bool → Nat → Prop, K v n → t n ρ K) (hc : c → v = true) (q : C v n) : brT (decide c) vYes t n ρ C := by
  by_cases e : c
  · rw [decide_eq_true e]
    rw [hc e] at q
    exact q
  · rw [decide_eq_false e]
    exact h e C q
theorem while_jn {c : RT} {tb : RS} {D : VEnds} {n : Nat} {ρ : List Sl} (J : Nat → List Sl → Prop) (h : ∀ K, (∀ n ρ, J n ρ → K n ρ) → vWhile c tb { D with nx := K } n ρ) (k : ∀ n ρ, J n ρ → D.nx n ρ) : vWhile c tb D n ρ := h D.nx k
def lvT (p : L3 × L3) : Tr := .tup [l3T p.1, l3T p.2]
theorem low_B {R : Int} {n : Nat} {l : L3} (h : Low R n l) (b : B 300 R) : B 302 l.1 ∧ B 300 l.2.1 ∧ B 300 l.2.2 := by
  have b' : R.natAbs < 2 ^ 300 := b
  have h0 := h.ok.s0
  have h1 := h.sR
  refine ⟨?_, B.le b h.ok.r0 h.rR, B.le b (Int.le_of_lt h.ok.R0) h.RR⟩
  show l.1.natAbs < 2 ^ 302
  rw [show (2 : Nat) ^ 302 = 2 ^ 300 * 4 by rw [show 302 = 300 + 2 from rfl, Nat.pow_add]]
  generalize (2 : Nat) ^ 300 = X at *
  omega
theorem low_R {R : Int} {n : Nat} {l : L3} (h : Low R n l) (b : B 300 R) : OkR (resL l) := by
  obtain ⟨m1, m2, m3, m4⟩ := h.ok.res
  exact ⟨m1, m2, m3, m4, (low_B h b).2.2⟩
theorem okR_low {l : L3} (o : OkR l) : Low l.2.2 0 l := Low.start o.s0 o.sR o.r0 o.rR
theorem brT_and {c : Prop} [Decidable c] {t : RT} {n : Nat} {ρ : List Sl} {C : Bool → Nat → Prop} (v : Bool) (h : c → ∀ K : Bool → Nat → Prop, K v n → t n ρ K) (hc : ¬ c → v = false) (q : C v n) : brT (decide c) t vNo n ρ C := by
  unfold brT
  by_cases z : c
  · rw [if_pos (decide_eq_true z)]
    exact h z C q
  · rw [if_neg (by rw [decide_eq_true_eq]; exact z)]
    rw [hc z] at q
    exact q
theorem ok_Statement___init__ (T : Tx w K mg) : FnOk PR w K mg base (L2.CX PR w) 4 T.f_Statement___init__ T.fd_Statement___init__ ["self", "target", "source"] (lIp (gK T) T.C_Statement 2 (sp_Statement___init__ T)) := by
  refine ok_vi (fun _ l b => T.F_Statement___init__.okX sc_Statement___init__ l b) rfl (by decide) (fun cdv A outer s H0 H E F0 xq hr => ?_)
  refine ⟨_, (vss_cons (vs_for (vs := [3]) own_of rfl (vi_tup rfl (ve_tup (va_cons (vpv 1) (va_cons (vpv 2) va_nil)))) (vg_name (i := 3) (by decide) sc_Statement___init__.nd rfl (Or.inl rfl))
      (vss_one (vs_if (vt_not (vt_val (ve_callB (cv_isC rfl T.ic_Course) (by rfl) T.z_isinstance (by decide +kernel) (va_cons (vpv 3) (va_cons (ve_opq (pe_glob (v := .ref T.C_Course) (by rfl) T.gC_Course rfl)) va_nil))))) (vss_one (vs_raise1 (C := T.C_BadValue) (f := "value") (ps_raise rfl (takes_of rfl rfl rfl rfl) (pmk_oex T.X_BadValue.oex T.X_BadValue.iC T.X_BadValue.tI (okX_BadValue T) (hr.mono (by decide)) T.bX_BadValue .nil pass0 rfl T.gC_BadValue (pa_cons (vpv 3) pa_nil))))) vss_nil)))
      (vss_cons (vs_if (vt_cmp ov_neS (ve_fld (C := T.C_Course) rfl T.n_Course_houses (vpv 1) rfl) (ve_fld (C := T.C_Course) rfl T.n_Course_houses (vpv 2) rfl) (nomark _)) (vss_one (vs_raise2 (C := T.C_Unlike) (f := "one") (g := "other") (ps_raise rfl (takes_of rfl rfl rfl rfl) (pmk_oex T.X_Unlike.oex T.X_Unlike.iC T.X_Unlike.tI (okX_Unlike T) (hr.mono (by decide)) T.bX_Unlike .nil pass0 rfl T.gC_Unlike (pa_cons (ve_fld (C := T.C_Course) rfl T.n_Course_houses (vpv 1) rfl) (pa_cons (ve_fld (C := T.C_Course) rfl T.n_Course_houses (vpv 2) rfl) pa_nil)))))) vss_nil)
      (vss_cons (vs_fldS (C := T.C_Statement) (i := 0) rfl T.n_Statement_target (ps_fld (pv 0) (vpv 1) rfl))
      (vss_one (vs_fldS (C := T.C_Statement) (i := 0) rfl T.n_Statement_source (ps_fld (pv 0) (vpv 2) rfl)))))), fun ts n Q y dy hl h => ?_⟩
  match ts, h with
  | [t, u], h =>
    rcases h with ⟨H0, R, s, r, e, h⟩ | ⟨ni, h⟩
    · subst e
      walk_at "w"
      rcases h with ⟨H', R', s', r', e, h⟩ | ⟨ni, h⟩
      · subst e
        walk_at "w"
        refine brS_n (fun p => ?_) (fun p => ?_)
        · rw [if_neg p] at h
          walk_at "w"
          exact h
        · rw [if_pos p] at h
          walk_at "w"
          exact h
      · cases u <;> first | (exact absurd ni Bool.false_ne_true) | (walk_at "w"; exact h)
    · walk_at "w"
      cases t <;> first | (exact absurd ni Bool.false_ne_true) | (walk_at "w"; exact h)
theorem ok_Statement_is_silent (T : Tx w K mg) : FnOk PR w K mg base (L2.CX PR w) 2 T.f_Statement_is_silent T.fd_Statement_is_silent ["self"] (lSp (gK T) 1 (sp_Statement_is_silent T)) := by
  refine ok_v (fun _ l b => T.F_Statement_is_silent.okX sc_Statement_is_silent l b) rfl (fun cdv A outer s H E F0 xq hr => ?_)
  refine ⟨_, (vss_one (vs_ret (ve_cmp (ov_eqII T.m_Course___eq__ (ok_Course___eq__ T) (hr.mono (by decide)) T.b_Course___eq__ hx_of) (ve_fld (C := T.C_Statement) rfl T.n_Statement_target (vpv 0) rfl) (ve_fld (C := T.C_Statement) rfl T.n_Statement_source (vpv 0) rfl) (nomark _)))), fun ts n Q hl h => ?_⟩
  match ts, h with
  | [t], ⟨H0, R, s, r, H', R', s', r', e, h⟩ =>
    subst e
    walk_at "w"
    exact ⟨_, _, _, _, _, _, _, _, rfl, rfl, h⟩
end
end K25
namespace K25
open PySem L2 DS VL NdefX
set_option pp.maxSteps 2000
local macro_rules | `(tactic| walk_at "v") => `(tactic| try dsimp only [vNext, vSeq, vBreak, vCont, vDrop, vRet, vRetN, vIfS, vSet, vFrz, frz, frzS, vSetOL, gNm, VL.gNil, VL.gCons, gTupN, vAsg, parQ, vPar, par3Q, vPar3, vFor, iLst, lstQ, VL.iTup, tupQ, VL.iRng1, rng1Q, VL.iRng2, rng2Q, vVar, vv, gt, vC, vOp, vUn, vI, vI0, vU, vEqS, isNonT, isNQ, vIsN, vbl, vIf, vAndV, vOrV, vNotV, vChain, vTest, vNot, vYes, vNo, vAnd, vOr, vNil, vCons, vTup, vLst, lkQ, fldC, vFldC, fldO, vFldO, vCall, methQ, vMeth, vMake, vBinII, vBinIZ, vNegOwn, vEqII, ends, endsI, oiQ, startT, startI, vCB, cInt, cAbs, c2I, cDivmod, cLen, cList, cTuple, cSum, cAll, cAny, cSorted, ixL, ixT, ixQ, oNone, oiQ2, oSome, slQ, vSlL, vCat, truT, truQ, vTru, augQ, augS, vAug, isBt, isQ, cIsB, isCQ, cIsC, isSeq, vIsSeq, vEqD, inSQ, vIn, appQ, vApp, setK, setQ, vSetI, popK, popQ, vPop, olQ, vLenO, vIxO, vTruO, fsQ, vFldS, putT, self2P, self2Q, vSelf2, vLc, wipeT, vNever, revQ, vRev, vParO, vRaise1, toldQ, vToldA, hide, hideS, vParO2, gSeqN, seqV, iSeqV, vLtT, ixoQ, vIndex, defQ, vCallL2, ixS, vToldM, inIQ, vInI, vInD, vRep, vIsB, vPar3O, vEqG, vNeG, cSortP, cZipL, vSs, vParOO, vMulZ, vAddS, cIntS, vNeL, vAppIf, vDGet2, gd2Q, dctQ, iRngL, rngLQ, vOrT, orK, vLRg1, lrg1Q, vSetCat, catO, vEqT, vLend, lendQ, vTLend, lendT, vSetLcO, lstO, vPar3P, vCallO, instQ, vRaise2, vPopG, popL, vToldB, hide, hideS, vRaise0, vSetD, vPutD, putDQ, putDK, vGetD, getDQ, getIQ, vDin, dinQ, iEnm, enumQ, enumT, vDctL, vDct, vDGet, dgQ, lkD, keyd, vSetRep, repO, vNeO, ite_tt, ite_ft, List.set, List.map, List.length, List.append, List.replicate, List.drop, List.nil_append, List.cons_append, List.append_nil, Nat.sub_self, Nat.reduceSub, List.replicate_zero, List.replicate_succ, Nat.reduceAdd, Bool.not_true, Bool.not_false, brE_true, brE_false, brT_true, brT_false, brS_true, brS_false, Bt.nm, vdraw, vpick, vten, vbegin, sp_is_integer, sp_is_whole, sp_need_integer, sp_need_positive, sp_need_step, sp_need_items, sp_is_step, crsT, sp_need_whole, sp_common_factor, sp_Course___init__, sp_Course___eq__, sp_Course___call__, sp_rests_of, sp_exchanged, sp_reaches, sp_first_step, sp_skipped, sp_parted_at, sp_first_apart, sp_line_of, sp_first_unlike, stmT, sp_Statement___init__, sp_Statement_is_silent, sp_Statement_first_sent, sp_folded, sp_raised, sp_sums_of, sp_floor_sums, oneT, othT, sp_total_of, sp_count_in, sp_Course_marks, sp_Course_spacing, sp_Course_turn, sp_Course_counted, sp_need_below, sp_Course_count, sp_is_level, sp_is_opposite, sp_marks_below, p2T, sp_sent_marks, sp_halves, sp_kept_marks, sp_sent_below, twoT, sp_Statement_turn, sp_Statement_is_parallel, sp_Statement_is_counted, sp_Statement_need_counted, sp_Statement_sent, sp_Statement_item_within, sp_Statement_sent_item, sp_Statement_next_sent, sp__law_great, sp__law_factor, sp__law_house, sp__law_course, sp__law_sent, sp__law_line, sp__law_lines, sp__law_step_right, sp__law_near_right, sp__law_call, sp__law_refused_right, fl_Course_houses, pt_Course_houses, fl_Course_run, pt_Course_run, fq_Course_1_0, fl_Course_start, pt_Course_start, fq_Course_2_0, fq_Course_2_1, fl_Course_rise, pt_Course_rise, fq_Course_3_0, fq_Course_3_1, fq_Course_3_2, nl_Course_marks, nl_Course_spacing, nl_Course_turn, nl_Course_counted, nl_Course_count, fl_Statement_target, pt_Statement_target, fl_Statement_source, pt_Statement_source, fq_Statement_1_0, nl_Statement_is_silent, nl_Statement_need_counted, nl_Statement_turn, nl_Statement_is_parallel, nl_Statement_is_counted, nl_Statement_sent, nl_Statement_sent_item, nl_Statement_item_within, nl_Statement_next_sent])
local macro_rules | `(tactic| walk_at "vc") => `(tactic| try dsimp only [vNext, vSeq, vBreak, vCont, vDrop, vRet, vRetN, vIfS, vSet, vFrz, frz, frzS, vSetOL, gNm, VL.gNil, VL.gCons, gTupN, vAsg, parQ, vPar, par3Q, vPar3, vFor, iLst, lstQ, VL.iTup, tupQ, VL.iRng1, rng1Q, VL.iRng2, rng2Q, vVar, vv, gt, vC, vOp, vUn, vI, vI0, vU, vEqS, isNonT, isNQ, vIsN, vbl, vIf, vAndV, vOrV, vNotV, vChain, vTest, vNot, vYes, vNo, vAnd, vOr, vNil, vCons, vTup, vLst, lkQ, fldC, vFldC, fldO, vFldO, vCall, methQ, vMeth, vMake, vBinII, vBinIZ, vNegOwn, vEqII, ends, endsI, oiQ, startT, startI, vCB, cInt, cAbs, c2I, cDivmod, cLen, cList, cTuple, cSum, cAll, cAny, cSorted, ixL, ixT, ixQ, oNone, oiQ2, oSome, slQ, vSlL, truT, truQ, vTru, augQ, augS, vAug, isBt, isQ, cIsB, isCQ, cIsC, isSeq, vIsSeq, vEqD, inSQ, vIn, appQ, vApp, setK, setQ, vSetI, popK, popQ, vPop, olQ, vLenO, vIxO, vTruO, fsQ, vFldS, putT, self2P, self2Q, vSelf2, vLc, wipeT, vNever, revQ, vRev, vParO, vRaise1, toldQ, vToldA, hide, hideS, vParO2, gSeqN, seqV, iSeqV, vLtT, ixoQ, vIndex, defQ, vCallL2, ixS, vToldM, inIQ, vInI, vInD, vRep, vIsB, vPar3O, vEqG, vNeG, cSortP, cZipL, vSs, vParOO, vMulZ, vAddS, cIntS, vNeL, vAppIf, vDGet2, gd2Q, dctQ, iRngL, rngLQ, vOrT, orK, vLRg1, lrg1Q, vSetCat, catO, vEqT, vLend, lendQ, vTLend, lendT, vSetLcO, lstO, vPar3P, vCallO, instQ, vRaise2, vPopG, popL, vToldB, hide, hideS, vRaise0, vSetD, vPutD, putDQ, putDK, vGetD, getDQ, getIQ, vDin, dinQ, iEnm, enumQ, enumT, vDctL, vDct, vDGet, dgQ, lkD, keyd, vSetRep, repO, vNeO, ite_tt, ite_ft, List.set, List.map, List.length, List.append, List.replicate, List.drop, List.nil_append, List.cons_append, List.append_nil, Nat.sub_self, Nat.reduceSub, List.replicate_zero, List.replicate_succ, Nat.reduceAdd, Bool.not_true, Bool.not_false, brE_true, brE_false, brT_true, brT_false, brS_true, brS_false, Bt.nm, vdraw, vpick, vten, vbegin, sp_is_integer, sp_is_whole, sp_need_integer, sp_need_positive, sp_need_step, sp_need_items, sp_is_step, crsT, sp_need_whole, sp_common_factor, sp_Course___init__, sp_Course___eq__, sp_Course___call__, sp_rests_of, sp_exchanged, sp_reaches, sp_first_step, sp_skipped, sp_parted_at, sp_first_apart, sp_line_of, sp_first_unlike, stmT, sp_Statement___init__, sp_Statement_is_silent, sp_Statement_first_sent, sp_folded, sp_raised, sp_sums_of, sp_floor_sums, oneT, othT, sp_total_of, sp_count_in, sp_Course_marks, sp_Course_spacing, sp_Course_turn, sp_Course_counted, sp_need_below, sp_Course_count, sp_is_level, sp_is_opposite, sp_marks_below, p2T, sp_sent_marks, sp_halves, sp_kept_marks, sp_sent_below, twoT, sp_Statement_turn, sp_Statement_is_parallel, sp_Statement_is_counted, sp_Statement_need_counted, sp_Statement_sent, sp_Statement_item_within, sp_Statement_sent_item, sp_Statement_next_sent, sp__law_great, sp__law_factor, sp__law_house, sp__law_course, sp__law_sent, sp__law_line, sp__law_lines, sp__law_step_right, sp__law_near_right, sp__law_call, sp__law_refused_right, fl_Course_houses, pt_Course_houses, fl_Course_run, pt_Course_run, fq_Course_1_0, fl_Course_start, pt_Course_start, fq_Course_2_0, fq_Course_2_1, fl_Course_rise, pt_Course_rise, fq_Course_3_0, fq_Course_3_1, fq_Course_3_2, nl_Course_marks, nl_Course_spacing, nl_Course_turn, nl_Course_counted, nl_Course_count, fl_Statement_target, pt_Statement_target, fl_Statement_source, pt_Statement_source, fq_Statement_1_0, nl_Statement_is_silent, nl_Statement_need_counted, nl_Statement_turn, nl_Statement_is_parallel, nl_Statement_is_counted, nl_Statement_sent, nl_Statement_sent_item, nl_Statement_item_within, nl_Statement_next_sent])
local macro_rules | `(tactic| walk_at "b") => `(tactic| first
  | with_reducible assumption
  | exact B.lit (k := 70) (by decide)
  | exact B.add (by walk_at "b") (by walk_at "b")
  | exact B.sub (by walk_at "b") (by walk_at "b")
  | exact B.neg (by walk_at "b")
  | exact B.mul (by walk_at "b") (by walk_at "b")
  | exact B.div (by walk_at "b")
  | exact B.mod (by walk_at "b") (by omega)
  | exact B.ite (by walk_at "b") (by walk_at "b")
  | exact B.ten _)
local macro_rules | `(tactic| walk_at "bb") => `(tactic| (with_reducible show B _ _; exact B.mono (by walk_at "b") (by first | decide | omega)))
local macro_rules | `(tactic| walk_at "sc") => `(tactic| first
  | with_reducible assumption
  | (with_reducible show (_ : Int) < 2 ^ 200; first | assumption | exact lt200 (by omega))
  | rfl
  | (show CMulA _ _; first | exact CMulA.s1 (by omega) (by omega) | exact CMulA.s2 (by omega) (by omega) | exact cmula (by walk_at "b") (by walk_at "b") (by first | decide | omega))
  | (show CDivW _ _; exact cdivw (by omega) (by walk_at "b") (by first | decide | omega))
  | (with_reducible show CDivP _ _; exact cdivp (by omega) (by walk_at "b") (by first | decide | omega))
  | (show CPow _ _; exact ⟨by decide, by decide, by decide⟩)
  | walk_at "bb"
  | omega
  | exact Nat.le_of_ble_eq_true rfl)
local macro_rules | `(tactic| walk_at "w") => `(tactic| (walk_at "v"; repeat ((first | refine And.intro (by walk_at "sc") ?_ | (with_reducible show Exists fun t => And (atI _ _ = some t) _; refine Exists.intro _ (And.intro rfl ?_))); walk_at "v")))

section
variable {P : Program} {w : World} {K : PySem.W.Frag} {mg : Str → Option Value} {base : Heap}
abbrev toldA {w : World} {K : PySem.W.Frag} {mg : Str → Option Value} (T : Tx w K mg) : List (Addr × List AI) := [(T.C_Unlike, [.s "unlike", .f "one", .f "other"]), (T.C_NotTold, [.s "not told"]), (T.C_BadValue, [.s "value", .f "value"])]
theorem gives__law_told {w : World} {K : PySem.W.Frag} {mg : Str → Option Value} (T : Tx w K mg) {CX : CXT} {P : Program} {base : Heap} {N : List Str} {qq : Str} {sc : Scope} {f0 : Addr} {cd : Value} {A0 : Around} {o0 : List Env} {s0 : Shared} {H0 : Hp} {E0 : XK} {q : Str} {cdv : Value} : LamX.GivesTo (cxOf CX P w K mg base N qq sc f0 cd A0 o0 s0 H0 E0) N__law_told "_law_told" (defScope s__law_told) T.f__law_told cdv (defBody s__law_told) "_law_call_here" q (TTm (toldA T)) := by
  intro f c' s H Q tl act hc h
  refine ⟨_, pss_cons (ps_set (i := 1) sc__law_told.nd rfl (.inl rfl) (pe_tup pa_nil)) (pss_cons (VTM.ps_try_mix (X := (cxOf C8.CX0 P w K mg base N__law_told "_law_told" (defScope s__law_told) T.f__law_told cdv (cxOf CX P w K mg base N qq sc f0 cd A0 o0 s0 H0 E0).A (cxOf CX P w K mg base N qq sc f0 cd A0 o0 s0 H0 E0).stack s H C8.E0).nox) (l := [⟨.ref T.C_Unlike, some 2, _⟩, ⟨.ref T.C_NotTold, none, _⟩, ⟨.ref T.C_BadValue, some 2, _⟩])
      (tb := fun W D σ H => ∃ Ech : XK, (∀ cls d σ' H', Ech cls d H' → σ'.length = 3 → W cls d σ' H') ∧ σ[0]? = some (some (.ref f)) ∧ H c' = some (LamX.CodeO c' q) ∧ tl Ech H (fun _ H' => D.nx σ H')) rfl rfl sc__law_told.nd takes0 (fun W pn xe tk _ => ?_)
      (.named rfl rfl rfl ⟨rfl, rfl, .inl T.gC_Unlike⟩ (fun a oe cls d pn hz hf => pss_one (ps_set (i := 1) sc__law_told.nd rfl (.inl rfl) (pe_tup (pa_cons pe_str (pa_cons (pe_xf (C := T.C_Unlike) T.xf_Unlike T.X_Unlike.nof hz hf (pv 2)) (pa_cons (pe_xf (C := T.C_Unlike) T.xf_Unlike T.xn2_Unlike hz hf (pv 2)) pa_nil))))))
        (.bare rfl ⟨rfl, rfl, .inl T.gC_NotTold⟩ (fun a oe cls d pn hz hf => pss_one (ps_set (i := 1) sc__law_told.nd rfl (.inl rfl) (pe_tup (pa_cons pe_str pa_nil))))
        (.named rfl rfl rfl ⟨rfl, rfl, .inl T.gC_BadValue⟩ (fun a oe cls d pn hz hf => pss_one (ps_set (i := 1) sc__law_told.nd rfl (.inl rfl) (pe_tup (pa_cons pe_str (pa_cons (pe_xf (C := T.C_BadValue) T.xf_BadValue T.X_BadValue.nof hz hf (pv 2)) pa_nil))))) .nil)))) (pss_one (ps_ret (pv 1)))), ?_⟩
  · refine ⟨fun pins s' σ H' D I h' => ?_⟩
    obtain ⟨Ech, hW, h1, h2, h3⟩ := h'
    exact (pss_one (ps_expr (act _ pn xe Ech _ _ (takes_len tk) (fun cls d σ' H' e l => hW cls d σ' H' e l)))).run pins s' σ H' D I ⟨h1, h2, h3⟩
  · refine ⟨Nat.zero_le _, fun p0 n0 => ?_⟩
    refine ⟨fun cls d H' => ∃ C its fvs vs, (C, its) ∈ toldA T ∧ cls = .ref C ∧ XAt H' d fvs ∧ Its V.str fvs its vs ∧ ∀ p, H' p = none → Q (.ref p) (upd H' p (.tup vs)), ?_, rfl, ?_, ?_⟩
    · rintro cls d σ' H' ⟨C, its, fvs, vs, hm, rfl, xa, it, hq⟩ hl
      obtain ⟨x, y, z, rfl⟩ : ∃ x y z, σ' = [x, y, z] := by
        match σ', hl with
        | [x, y, z], _ => exact ⟨x, y, z, rfl⟩
      rcases List.mem_cons.mp hm with e | hm
      · cases e
        cases it with
        | s it => cases it with
          | f hv it => cases it with
            | f hv2 it => cases it with
              | nil =>
                refine ⟨true, T.em_Unlike, fun a na => ?_⟩
                cases d with
                | none => cases (show fvs = [] from xa); cases hv
                | some dd => exact ⟨_, rfl, rfl, rfl, dd, fvs, _, rfl, xa.1, hv, _, rfl, rfl, rfl, dd, fvs, _, rfl, xa.1, hv2, Nat.le_of_ble_eq_true rfl, fun p np => ⟨_, rfl, hq p np⟩⟩
      rcases List.mem_cons.mp hm with e | hm
      · cases e
        cases it with
        | s it => cases it with
          | nil => exact ⟨false, T.en_NotTold_Unlike, true, T.em_NotTold, fun a na => ⟨Nat.le_of_ble_eq_true rfl, fun p np => ⟨_, rfl, hq p np⟩⟩⟩
      · cases List.mem_singleton.mp hm
        cases it with
        | s it => cases it with
          | f hv it => cases it with
            | nil =>
              refine ⟨false, T.en_BadValue_Unlike, false, T.en_BadValue_NotTold, true, T.em_BadValue, fun a na => ?_⟩
              cases d with
              | none => cases (show fvs = [] from xa); cases hv
              | some dd => exact ⟨_, rfl, rfl, rfl, dd, fvs, _, rfl, xa.1, hv, Nat.le_of_ble_eq_true rfl, fun p np => ⟨_, rfl, hq p np⟩⟩
    · rw [upd_ne (ne_of_none hc n0)]
      exact hc
    · have e := h p0 n0
      refine cast (congrArg (tl _ _) ?_) e
      funext x H'
      exact propext ⟨fun q => ⟨_, rfl, q⟩, fun ⟨v, e, q⟩ => by cases e; exact q⟩
end
end K25
namespace K25
open PySem L2 DS VL NdefX MT
set_option pp.maxSteps 2000
local macro_rules | `(tactic| walk_at "v") => `(tactic| try dsimp only [vNext, vSeq, vBreak, vCont, vDrop, vRet, vRetN, vIfS, vSet, vFrz, frz, frzS, vSetOL, gNm, VL.gNil, VL.gCons, gTupN, vAsg, parQ, vPar, par3Q, vPar3, vFor, iLst, lstQ, VL.iTup, tupQ, VL.iRng1, rng1Q, VL.iRng2, rng2Q, vVar, vv, gt, vC, vOp, vUn, vI, vI0, vU, vEqS, isNonT, isNQ, vIsN, vbl, vIf, vAndV, vOrV, vNotV, vChain, vTest, vNot, vYes, vNo, vAnd, vOr, vNil, vCons, vTup, vLst, lkQ, fldC, vFldC, fldO, vFldO, vCall, methQ, vMeth, vMake, vBinII, vBinIZ, vNegOwn, vEqII, ends, endsI, oiQ, startT, startI, vCB, cInt, cAbs, c2I, cDivmod, cLen, cList, cTuple, cSum, cAll, cAny, cSorted, ixL, ixT, ixQ, oNone, oiQ2, oSome, slQ, vSlL, vCat, truT, truQ, vTru, augQ, augS, vAug, isBt, isQ, cIsB, isCQ, cIsC, isSeq, vIsSeq, vEqD, inSQ, vIn, appQ, vApp, setK, setQ, vSetI, popK, popQ, vPop, olQ, vLenO, vIxO, vTruO, fsQ, vFldS, putT, self2P, self2Q, vSelf2, vLc, wipeT, vNever, revQ, vRev, vParO, vRaise1, toldQ, vToldA, hide, hideS, vParO2, gSeqN, seqV, iSeqV, vLtT, ixoQ, vIndex, defQ, vCallL2, ixS, vToldM, inIQ, vInI, vInD, vRep, vIsB, vPar3O, vEqG, vNeG, cSortP, cZipL, vSs, vParOO, vMulZ, vAddS, cIntS, vNeL, vAppIf, vDGet2, gd2Q, dctQ, iRngL, rngLQ, vOrT, orK, vLRg1, lrg1Q, vSetCat, catO, vEqT, vLend, lendQ, vTLend, lendT, vSetLcO, lstO, vPar3P, vCallO, instQ, vRaise2, vPopG, popL, vToldB, hide, hideS, vRaise0, vSetD, vPutD, putDQ, putDK, vGetD, getDQ, getIQ, vDin, dinQ, iEnm, enumQ, enumT, vDctL, vDct, vDGet, dgQ, lkD, keyd, vSetRep, repO, vNeO, ite_tt, ite_ft, List.set, List.map, List.length, List.append, List.replicate, List.drop, List.nil_append, List.cons_append, List.append_nil, Nat.sub_self, Nat.reduceSub, List.replicate_zero, List.replicate_succ, Nat.reduceAdd, Bool.not_true, Bool.not_false, brE_true, brE_false, brT_true, brT_false, brS_true, brS_false, Bt.nm, vdraw, vpick, vten, vbegin, sp_is_integer, sp_is_whole, sp_need_integer, sp_need_positive, sp_need_step, sp_need_items, sp_is_step, crsT, sp_need_whole, sp_common_factor, sp_Course___init__, sp_Course___eq__, sp_Course___call__, sp_rests_of, sp_exchanged, sp_reaches, sp_first_step, sp_skipped, sp_parted_at, sp_first_apart, sp_line_of, sp_first_unlike, stmT, sp_Statement___init__, sp_Statement_is_silent, sp_Statement_first_sent, sp_folded, sp_raised, sp_sums_of, sp_floor_sums, oneT, othT, sp_total_of, sp_count_in, sp_Course_marks, sp_Course_spacing, sp_Course_turn, sp_Course_counted, sp_need_below, sp_Course_count, sp_is_level, sp_is_opposite, sp_marks_below, p2T, sp_sent_marks, sp_halves, sp_kept_marks, sp_sent_below, twoT, sp_Statement_turn, sp_Statement_is_parallel, sp_Statement_is_counted, sp_Statement_need_counted, sp_Statement_sent, sp_Statement_item_within, sp_Statement_sent_item, sp_Statement_next_sent, sp__law_great, sp__law_factor, sp__law_house, sp__law_course, sp__law_sent, sp__law_line, sp__law_lines, sp__law_step_right, sp__law_near_right, sp__law_call, sp__law_refused_right, fl_Course_houses, pt_Course_houses, fl_Course_run, pt_Course_run, fq_Course_1_0, fl_Course_start, pt_Course_start, fq_Course_2_0, fq_Course_2_1, fl_Course_rise, pt_Course_rise, fq_Course_3_0, fq_Course_3_1, fq_Course_3_2, nl_Course_marks, nl_Course_spacing, nl_Course_turn, nl_Course_counted, nl_Course_count, fl_Statement_target, pt_Statement_target, fl_Statement_source, pt_Statement_source, fq_Statement_1_0, nl_Statement_is_silent, nl_Statement_need_counted, nl_Statement_turn, nl_Statement_is_parallel, nl_Statement_is_counted, nl_Statement_sent, nl_Statement_sent_item, nl_Statement_item_within, nl_Statement_next_sent])
local macro_rules | `(tactic| walk_at "vc") => `(tactic| try dsimp only [vNext, vSeq, vBreak, vCont, vDrop, vRet, vRetN, vIfS, vSet, vFrz, frz, frzS, vSetOL, gNm, VL.gNil, VL.gCons, gTupN, vAsg, parQ, vPar, par3Q, vPar3, vFor, iLst, lstQ, VL.iTup, tupQ, VL.iRng1, rng1Q, VL.iRng2, rng2Q, vVar, vv, gt, vC, vOp, vUn, vI, vI0, vU, vEqS, isNonT, isNQ, vIsN, vbl, vIf, vAndV, vOrV, vNotV, vChain, vTest, vNot, vYes, vNo, vAnd, vOr, vNil, vCons, vTup, vLst, lkQ, fldC, vFldC, fldO, vFldO, vCall, methQ, vMeth, vMake, vBinII, vBinIZ, vNegOwn, vEqII, ends, endsI, oiQ, startT, startI, vCB, cInt, cAbs, c2I, cDivmod, cLen, cList, cTuple, cSum, cAll, cAny, cSorted, ixL, ixT, ixQ, oNone, oiQ2, oSome, slQ, vSlL, truT, truQ, vTru, augQ, augS, vAug, isBt, isQ, cIsB, isCQ, cIsC, isSeq, vIsSeq, vEqD, inSQ, vIn, appQ, vApp, setK, setQ, vSetI, popK, popQ, vPop, olQ, vLenO, vIxO, vTruO, fsQ, vFldS, putT, self2P, self2Q, vSelf2, vLc, wipeT, vNever, revQ, vRev, vParO, vRaise1, toldQ, vToldA, hide, hideS, vParO2, gSeqN, seqV, iSeqV, vLtT, ixoQ, vIndex, defQ, vCallL2, ixS, vToldM, inIQ, vInI, vInD, vRep, vIsB, vPar3O, vEqG, vNeG, cSortP, cZipL, vSs, vParOO, vMulZ, vAddS, cIntS, vNeL, vAppIf, vDGet2, gd2Q, dctQ, iRngL, rngLQ, vOrT, orK, vLRg1, lrg1Q, vSetCat, catO, vEqT, vLend, lendQ, vTLend, lendT, vSetLcO, lstO, vPar3P, vCallO, instQ, vRaise2, vPopG, popL, vToldB, hide, hideS, vRaise0, vSetD, vPutD, putDQ, putDK, vGetD, getDQ, getIQ, vDin, dinQ, iEnm, enumQ, enumT, vDctL, vDct, vDGet, dgQ, lkD, keyd, vSetRep, repO, vNeO, ite_tt, ite_ft, List.set, List.map, List.length, List.append, List.replicate, List.drop, List.nil_append, List.cons_append, List.append_nil, Nat.sub_self, Nat.reduceSub, List.replicate_zero, List.replicate_succ, Nat.reduceAdd, Bool.not_true, Bool.not_false, brE_true, brE_false, brT_true, brT_false, brS_true, brS_false, Bt.nm, vdraw, vpick, vten, vbegin, sp_is_integer, sp_is_whole, sp_need_integer, sp_need_positive, sp_need_step, sp_need_items, sp_is_step, crsT, sp_need_whole, sp_common_factor, sp_Course___init__, sp_Course___eq__, sp_Course___call__, sp_rests_of, sp_exchanged, sp_reaches, sp_first_step, sp_skipped, sp_parted_at, sp_first_apart, sp_line_of, sp_first_unlike, stmT, sp_Statement___init__, sp_Statement_is_silent, sp_Statement_first_sent, sp_folded, sp_raised, sp_sums_of, sp_floor_sums, oneT, othT, sp_total_of, sp_count_in, sp_Course_marks, sp_Course_spacing, sp_Course_turn, sp_Course_counted, sp_need_below, sp_Course_count, sp_is_level, sp_is_opposite, sp_marks_below, p2T, sp_sent_marks, sp_halves, sp_kept_marks, sp_sent_below, twoT, sp_Statement_turn, sp_Statement_is_parallel, sp_Statement_is_counted, sp_Statement_need_counted, sp_Statement_sent, sp_Statement_item_within, sp_Statement_sent_item, sp_Statement_next_sent, sp__law_great, sp__law_factor, sp__law_house, sp__law_course, sp__law_sent, sp__law_line, sp__law_lines, sp__law_step_right, sp__law_near_right, sp__law_call, sp__law_refused_right, fl_Course_houses, pt_Course_houses, fl_Course_run, pt_Course_run, fq_Course_1_0, fl_Course_start, pt_Course_start, fq_Course_2_0, fq_Course_2_1, fl_Course_rise, pt_Course_rise, fq_Course_3_0, fq_Course_3_1, fq_Course_3_2, nl_Course_marks, nl_Course_spacing, nl_Course_turn, nl_Course_counted, nl_Course_count, fl_Statement_target, pt_Statement_target, fl_Statement_source, pt_Statement_source, fq_Statement_1_0, nl_Statement_is_silent, nl_Statement_need_counted, nl_Statement_turn, nl_Statement_is_parallel, nl_Statement_is_counted, nl_Statement_sent, nl_Statement_sent_item, nl_Statement_item_within, nl_Statement_next_sent])
local macro_rules | `(tactic| walk_at "b") => `(tactic| first
  | with_reducible assumption
  | exact B.lit (k := 70) (by decide)
  | exact B.add (by walk_at "b") (by walk_at "b")
  | exact B.sub (by walk_at "b") (by walk_at "b")
  | exact B.neg (by walk_at "b")
  | exact B.mul (by walk_at "b") (by walk_at "b")
  | exact B.div (by walk_at "b")
  | exact B.mod (by walk_at "b") (by omega)
  | exact B.ite (by walk_at "b") (by walk_at "b")
  | exact B.ten _)
local macro_rules | `(tactic| walk_at "bb") => `(tactic| (with_reducible show B _ _; exact B.mono (by walk_at "b") (by first | decide | omega)))
local macro_rules | `(tactic| walk_at "sc") => `(tactic| first
  | with_reducible assumption
  | (with_reducible show (_ : Int) < 2 ^ 200; first | assumption | exact lt200 (by omega))
  | rfl
  | (show CMulA _ _; first | exact CMulA.s1 (by omega) (by omega) | exact CMulA.s2 (by omega) (by omega) | exact cmula (by walk_at "b") (by walk_at "b") (by first | decide | omega))
  | (show CDivW _ _; exact cdivw (by omega) (by walk_at "b") (by first | decide | omega))
  | (with_reducible show CDivP _ _; exact cdivp (by omega) (by walk_at "b") (by first | decide | omega))
  | (show CPow _ _; exact ⟨by decide, by decide, by decide⟩)
  | walk_at "bb"
  | omega
  | exact Nat.le_of_ble_eq_true rfl)
local macro_rules | `(tactic| walk_at "w") => `(tactic| (walk_at "v"; repeat ((first | refine And.intro (by walk_at "sc") ?_ | (with_reducible show Exists fun t => And (atI _ _ = some t) _; refine Exists.intro _ (And.intro rfl ?_))); walk_at "v")))

section
variable {P : Program} {w : World} {K : PySem.W.Frag} {mg : Str → Option Value} {base : Heap}
theorem B.pm1 {g : Int} (h : g = 1 ∨ g = -1) : B 2 g := by rcases h with rfl | rfl <;> exact B.lit
theorem tot_step {m r a b tot sg F : Int} (hm : 0 < m) (hr : 0 < r) (h : tot + sg * f1 r a b m.toNat = F) : tot + sg * (m * (m - 1) / 2 * (a / r) + m * (b / r)) + sg * (m - 1) * ((a % r * (m - 1) + b % r) / r) + -sg * f1 (a % r) r (r - b % r - 1) ((a % r * (m - 1) + b % r) / r).toNat = F := by
  have l := (level (a := a) (b := b) hm hr rfl rfl rfl rfl).1
  rw [l] at h
  grind
theorem ok_total_of (T : Tx w K mg) : FnOk PR w K mg base (L2.CX PR w) 1 T.f_total_of T.fd_total_of ["many", "run", "rise", "start"] (lSp (gK T) 4 (sp_total_of T)) := by
  refine ok_v (fun _ l b => T.F_total_of.okX sc_total_of l b) rfl (fun cdv A outer s H E F0 xq hr => ?_)
  refine ⟨_, (vss_cons (vs_asg (vs := [4, 5]) (ve_tup (va_cons ve_int (va_cons ve_int va_nil))) (vg_tup (m := 2) rfl rfl (vgs_cons (vg_name (i := 4) (by decide) sc_total_of.nd rfl (Or.inl rfl)) (vgs_cons (vg_name (i := 5) (by decide) sc_total_of.nd rfl (Or.inl rfl)) vgs_nil))))
      (vss_cons (vs_while own_of (vt_cmp ov_gt (vpv 0) ve_int (nomark _)) (vss_cons (vs_set (i := 4) sc_total_of.nd rfl (Or.inl rfl) (ve_op ov_add (vpv 4) (ve_op ov_mul (vpv 5) (ve_op ov_add (ve_op ov_mul (ve_op ov_fdiv (ve_op ov_mul (vpv 0) (ve_op ov_sub (vpv 0) ve_int)) ve_int) (ve_op ov_fdiv (vpv 2) (vpv 1))) (ve_op ov_mul (vpv 0) (ve_op ov_fdiv (vpv 3) (vpv 1)))))))
      (vss_cons (vs_set (i := 6) sc_total_of.nd rfl (Or.inl rfl) (ve_op ov_fdiv (ve_op ov_add (ve_op ov_mul (ve_op ov_mod (vpv 2) (vpv 1)) (ve_op ov_sub (vpv 0) ve_int)) (ve_op ov_mod (vpv 3) (vpv 1))) (vpv 1)))
      (vss_cons (vs_set (i := 4) sc_total_of.nd rfl (Or.inl rfl) (ve_op ov_add (vpv 4) (ve_op ov_mul (ve_op ov_mul (vpv 5) (ve_op ov_sub (vpv 0) ve_int)) (vpv 6))))
      (vss_cons (vs_asg (vs := [0, 1, 2, 3]) (ve_tup (va_cons (vpv 6) (va_cons (ve_op ov_mod (vpv 2) (vpv 1)) (va_cons (vpv 1) (va_cons (ve_op ov_sub (ve_op ov_sub (vpv 1) (ve_op ov_mod (vpv 3) (vpv 1))) ve_int) va_nil))))) (vg_tup (m := 4) rfl rfl (vgs_cons (vg_name (i := 0) (by decide) sc_total_of.nd rfl (Or.inl rfl)) (vgs_cons (vg_name (i := 1) (by decide) sc_total_of.nd rfl (Or.inl rfl)) (vgs_cons (vg_name (i := 2) (by decide) sc_total_of.nd rfl (Or.inl rfl)) (vgs_cons (vg_name (i := 3) (by decide) sc_total_of.nd rfl (Or.inl rfl)) vgs_nil))))))
      (vss_one (vs_set (i := 5) sc_total_of.nd rfl (Or.inl rfl) (ve_un VL.un_neg (vpv 5)))))))))
      (vss_one (vs_ret (vpv 4))))), fun ts n Q hl h => ?_⟩
  match ts, h with
  | [.int m, .int r, .int a, .int b], ⟨m0, r0, mB, rB, aB, bB, h⟩ =>
    walk_at "w"
    have FB : B 4510 (f1 r a b m.toNat) := (B.f1 (r := r) (m := m.toNat) (k := 1500) (by rw [Int.toNat_of_nonneg m0]; exact mB) aB bB).mono (by decide)
    refine ⟨fun k n' ρ => ∃ l m' r' a' b' tot sg tp, n' = n ∧ k = Int.toNat m' ∧ Ch 1500 m r a b l m' r' a' b' ∧ (sg = 1 ∨ sg = -1) ∧ tot + sg * f1 r' a' b' m'.toNat = f1 r a b m.toNat ∧ ρ = [.v (.int m'), .v (.int r'), .v (.int a'), .v (.int b'), .v (.int tot), .v (.int sg), tp], ⟨_, [], m, r, a, b, 0, 1, .un, rfl, rfl, .nil m0 (fun _ => r0) mB rB aB bB, .inl rfl, by omega, rfl⟩, ?_⟩
    rintro k n' ρ ⟨l, m', r', a', b', tot, sg, tp, rfl, rfl, c, hs, ht, rfl⟩
    obtain ⟨c1, c2, c3, c4, c5, c6⟩ := c.ok
    walk_at "v"
    by_cases p : 0 < m'
    · rw [if_pos (decide_eq_true p)]
      have c7 := c2 p
      have c9 := top_lt (a := a') (b := b') p c7
      have sB := B.pm1 hs
      have tB : B 4520 tot := by
        have x1 := B.f1 (r := r') (m := m'.toNat) (k := 1500) (by rw [Int.toNat_of_nonneg c1]; exact c3) c5 c6
        rw [show tot = f1 r a b m.toNat - sg * f1 r' a' b' m'.toNat by omega]
        exact (FB.sub (sB.mul x1)).mono (by decide)
      have hs' : -sg = 1 ∨ -sg = -1 := by omega
      have st := tot_step (b := b') p c7 ht
      walk_at "w"
      exact ⟨_, (by omega), _, _, _, _, _, _, _, _, rfl, rfl, c.snoc p, hs', st, rfl⟩
    · rw [if_neg (by simp; omega)]
      have z : m' = 0 := by omega
      subst z
      rw [show f1 r' a' b' (0 : Int).toNat = 0 from rfl, Int.mul_zero, Int.add_zero] at ht
      subst ht
      walk_at "w"
      exact h
theorem ok_count_in (T : Tx w K mg) : FnOk PR w K mg base (L2.CX PR w) 2 T.f_count_in T.fd_count_in ["many", "run", "rise", "start", "length"] (lSp (gK T) 5 (sp_count_in T)) := by
  refine ok_v (fun _ l b => T.F_count_in.okX sc_count_in l b) rfl (fun cdv A outer s H E F0 xq hr => ?_)
  refine ⟨_, (vss_one (vs_ret (ve_op ov_sub (ve_call (ok_total_of T) (hr.mono (by decide)) (by rfl) T.g_total_of T.F_total_of.kp T.b_total_of .nil (fun _ => .nil) hx_of (va_cons (vpv 0) (va_cons (vpv 1) (va_cons (vpv 2) (va_cons (vpv 3) va_nil))))) (ve_call (ok_total_of T) (hr.mono (by decide)) (by rfl) T.g_total_of T.F_total_of.kp T.b_total_of .nil (fun _ => .nil) hx_of (va_cons (vpv 0) (va_cons (vpv 1) (va_cons (vpv 2) (va_cons (ve_op ov_sub (vpv 3) (vpv 4)) va_nil)))))))), fun ts n Q hl h => ?_⟩
  match ts, h with
  | [.int m, .int r, .int a, .int b, .int l], ⟨m0, r0, mB, rB, aB, bB, lB, h⟩ =>
    have x1 := B.f1 (r := r) (m := m.toNat) (k := 1500) (by rw [Int.toNat_of_nonneg m0]; exact mB) aB (bB.mono (by decide))
    walk_at "w"
    exact h
theorem CrsOk.bs {H R s r : Int} (ok : CrsOk H R s r) : B 300 (R * H) ∧ 0 < R * H ∧ B 300 s ∧ B 300 r := by
  have M := (ok.rB.mul ok.hB).mono (l := 300) (by decide)
  exact ⟨M, Int.mul_pos ok.nf.R0 ok.nf.h0, M.le ok.nf.s0 (Int.le_of_lt ok.nf.sM), M.le ok.nf.r0 (Int.le_of_lt ok.nf.rM)⟩
theorem ok_Course_marks (T : Tx w K mg) : FnOk PR w K mg base (L2.CX PR w) 1 T.f_Course_marks T.fd_Course_marks ["self"] (lSp (gK T) 1 (sp_Course_marks T)) := by
  refine ok_v (fun _ l b => T.F_Course_marks.okX sc_Course_marks l b) rfl (fun cdv A outer s H E F0 xq hr => ?_)
  refine ⟨_, (vss_one (vs_ret (ve_op ov_mul (ve_fld (C := T.C_Course) rfl T.n_Course_run (vpv 0) rfl) (ve_fld (C := T.C_Course) rfl T.n_Course_houses (vpv 0) rfl)))), fun ts n Q hl h => ?_⟩
  match ts, h with
  | [t], ⟨H0, R, s, r, e, ok, h⟩ =>
    subst e
    have h0 := ok.nf.h0
    have rB := ok.rB
    have hB := ok.hB
    walk_at "w"
    exact h
theorem ok_Course_spacing (T : Tx w K mg) : FnOk PR w K mg base (L2.CX PR w) 2 T.f_Course_spacing T.fd_Course_spacing ["self"] (lSp (gK T) 1 (sp_Course_spacing T)) := by
  refine ok_v (fun _ l b => T.F_Course_spacing.okX sc_Course_spacing l b) rfl (fun cdv A outer s H E F0 xq hr => ?_)
  refine ⟨_, (vss_one (vs_ret (ve_call (ok_common_factor T) (hr.mono (by decide)) (by rfl) T.g_common_factor T.F_common_factor.kp T.b_common_factor .nil (fun _ => .nil) hx_of (va_cons (ve_fld (C := T.C_Course) rfl T.n_Course_rise (vpv 0) rfl) (va_cons (ve_meth0 (vpv 0) T.cl_Course T.m_Course_marks (ok_Course_marks T) (hr.mono (by decide)) T.b_Course_marks .nil (fun _ => .nil) hx_of) va_nil))))), fun ts n Q hl h => ?_⟩
  match ts, h with
  | [t], ⟨H0, R, s, r, e, ok, h⟩ =>
    subst e
    obtain ⟨MB, M0, _, _⟩ := ok.bs
    walk_at "w"
    exact ⟨_, _, _, _, rfl, ok, rfl, Int.le_of_lt M0, .inl M0, h⟩
theorem sp_pos {r M : Int} (M0 : 0 < M) : (0 : Int) < (Int.gcd r M : Nat) := by
  have : 0 < Int.gcd r M := Int.gcd_pos_of_ne_zero_right _ (by omega)
  omega
theorem ok_Course_turn (T : Tx w K mg) : FnOk PR w K mg base (L2.CX PR w) 3 T.f_Course_turn T.fd_Course_turn ["self"] (lSp (gK T) 1 (sp_Course_turn T)) := by
  refine ok_v (fun _ l b => T.F_Course_turn.okX sc_Course_turn l b) rfl (fun cdv A outer s H E F0 xq hr => ?_)
  refine ⟨_, (vss_one (vs_ret (ve_op ov_fdiv (ve_meth0 (vpv 0) T.cl_Course T.m_Course_marks (ok_Course_marks T) (hr.mono (by decide)) T.b_Course_marks .nil (fun _ => .nil) hx_of) (ve_meth0 (vpv 0) T.cl_Course T.m_Course_spacing (ok_Course_spacing T) (hr.mono (by decide)) T.b_Course_spacing .nil (fun _ => .nil) hx_of)))), fun ts n Q hl h => ?_⟩
  match ts, h with
  | [t], ⟨H0, R, s, r, e, ok, h⟩ =>
    subst e
    obtain ⟨MB, M0, _, _⟩ := ok.bs
    have g0 := sp_pos (r := r) M0
    have gB := B.gcd (a := r) MB M0
    have c1 : CDivW (R * H0) (Int.gcd r (R * H0) : Nat) := cdivw g0 gB (by decide)
    walk_at "w"
    refine ⟨_, _, _, _, rfl, ok, ?_⟩
    walk_at "w"
    exact ⟨_, _, _, _, rfl, ok, c1, h⟩
theorem ok_Course_counted (T : Tx w K mg) : FnOk PR w K mg base (L2.CX PR w) 3 T.f_Course_counted T.fd_Course_counted ["self", "house", "many"] (lSp (gK T) 3 (sp_Course_counted T)) := by
  refine ok_v (fun _ l b => T.F_Course_counted.okX sc_Course_counted l b) rfl (fun cdv A outer s H E F0 xq hr => ?_)
  refine ⟨_, (vss_one (vs_ret (ve_call (ok_count_in T) (hr.mono (by decide)) (by rfl) T.g_count_in T.F_count_in.kp T.b_count_in .nil (fun _ => .nil) hx_of (va_cons (vpv 2) (va_cons (ve_meth0 (vpv 0) T.cl_Course T.m_Course_marks (ok_Course_marks T) (hr.mono (by decide)) T.b_Course_marks .nil (fun _ => .nil) hx_of) (va_cons (ve_fld (C := T.C_Course) rfl T.n_Course_rise (vpv 0) rfl) (va_cons (ve_op ov_sub (ve_fld (C := T.C_Course) rfl T.n_Course_start (vpv 0) rfl) (ve_op ov_mul (vpv 1) (ve_fld (C := T.C_Course) rfl T.n_Course_run (vpv 0) rfl))) (va_cons (ve_fld (C := T.C_Course) rfl T.n_Course_run (vpv 0) rfl) va_nil)))))))), fun ts n Q hl h => ?_⟩
  match ts, h with
  | [t, .int g, .int m], ⟨H0, R, s, r, e, ok, m0, mB, g0, gH, h⟩ =>
    subst e
    obtain ⟨MB, M0, sB, rB⟩ := ok.bs
    have R0 := ok.nf.R0
    have RB := ok.rB
    have hB := ok.hB
    have gB : B 150 g := hB.le g0 (Int.le_of_lt gH)
    have c1 : CMulA g R := cmula gB RB (by decide)
    walk_at "w"
    refine ⟨_, _, _, _, rfl, ok, ?_⟩
    walk_at "w"
    exact h
theorem ok_Course_count (T : Tx w K mg) : FnOk PR w K mg base (L2.CX PR w) 5 T.f_Course_count T.fd_Course_count ["self", "house", "many"] (lSp (gK T) 3 (sp_Course_count T)) := by
  refine ok_v (fun _ l b => T.F_Course_count.okX sc_Course_count l b) rfl (fun cdv A outer s H E F0 xq hr => ?_)
  refine ⟨_, (vss_cons (vs_expr (ve_call (ok_need_below T) (hr.mono (by decide)) (by rfl) T.g_need_below T.F_need_below.kp T.b_need_below .nil (fun _ => .nil) hx_of (va_cons (vpv 1) (va_cons (ve_fld (C := T.C_Course) rfl T.n_Course_houses (vpv 0) rfl) va_nil))))
      (vss_cons (vs_expr (ve_call (ok_need_whole T) (hr.mono (by decide)) (by rfl) T.g_need_whole T.F_need_whole.kp T.b_need_whole .nil (fun _ => .nil) hx_of (va_cons (vpv 2) va_nil)))
      (vss_one (vs_ret (ve_meth (vpv 0) T.cl_Course T.m_Course_counted (ok_Course_counted T) (hr.mono (by decide)) T.b_Course_counted .nil (fun _ => .nil) hx_of (va_cons (vpv 1) (va_cons (vpv 2) va_nil))))))), fun ts n Q hl h => ?_⟩
  match ts, h with
  | [t, tg, tm], ⟨H0, R, s, r, e, ok, h⟩ =>
    subst e
    walk_at "w"
    refine okQ_mono h fun h1 => ⟨rfl, okQ_mono h1 fun ⟨g, m, e1, e2, m0, mB, g0, gH, h2⟩ => ?_⟩
    subst e1
    subst e2
    walk_at "w"
    exact ⟨_, _, _, _, rfl, ok, m0, mB, g0, gH, h2⟩
theorem brE_andB {c : Prop} [Decidable c] {t : RE} {n : Nat} {ρ : List Sl} {Q : VQ} (v : Bool) (h : c → ∀ K : VQ, K (.bl v) n → t n ρ K) (hc : ¬ c → v = false) (q : Q (.bl v) n) : brE (decide c) t (vC (.bl false)) n ρ Q := by
  by_cases e : c
  · rw [decide_eq_true e]
    exact h e Q q
  · rw [decide_eq_false e]
    rw [hc e] at q
    exact q
theorem ok_is_level (T : Tx w K mg) : FnOk PR w K mg base (L2.CX PR w) 1 T.f_is_level T.fd_is_level ["one", "other"] (lSp (gK T) 2 (sp_is_level T)) := by
  refine ok_v (fun _ l b => T.F_is_level.okX sc_is_level l b) rfl (fun cdv A outer s H E F0 xq hr => ?_)
  refine ⟨_, (vss_one (vs_ret (ve_and (ve_cmp ov_eqS (ve_fld (C := T.C_Course) rfl T.n_Course_run (vpv 0) rfl) (ve_fld (C := T.C_Course) rfl T.n_Course_run (vpv 1) rfl) (nomark _)) (ve_one (ve_cmp ov_eqS (ve_fld (C := T.C_Course) rfl T.n_Course_rise (vpv 0) rfl) (ve_fld (C := T.C_Course) rfl T.n_Course_rise (vpv 1) rfl) (nomark _)))))), fun ts n Q hl h => ?_⟩
  match ts, h with
  | [t, u], ⟨p, e1, e2, h⟩ =>
    subst e1
    subst e2
    unfold oneT othT
    walk_at "w"
    refine brE_andB (decide (p.R = p.R' ∧ p.r = p.r')) (fun c K hK => ?_) (fun c => decide_eq_false fun z => c z.1) h
    walk_at "w"
    rw [show decide (p.r = p.r') = decide (p.R = p.R' ∧ p.r = p.r') from decide_eq_decide.mpr ⟨fun z => ⟨c, z⟩, fun z => z.2⟩]
    exact hK
theorem ok_is_opposite (T : Tx w K mg) : FnOk PR w K mg base (L2.CX PR w) 1 T.f_is_opposite T.fd_is_opposite ["one", "other"] (lSp (gK T) 2 (sp_is_opposite T)) := by
  refine ok_v (fun _ l b => T.F_is_opposite.okX sc_is_opposite l b) rfl (fun cdv A outer s H E F0 xq hr => ?_)
  refine ⟨_, (vss_one (vs_ret (ve_and (ve_cmp ov_eqS (ve_fld (C := T.C_Course) rfl T.n_Course_run (vpv 0) rfl) (ve_fld (C := T.C_Course) rfl T.n_Course_run (vpv 1) rfl) (nomark _)) (ve_one (ve_cmp ov_eqS (ve_op ov_mod (ve_op ov_add (ve_fld (C := T.C_Course) rfl T.n_Course_rise (vpv 0) rfl) (ve_fld (C := T.C_Course) rfl T.n_Course_rise (vpv 1) rfl)) (ve_op ov_mul (ve_fld (C := T.C_Course) rfl T.n_Course_run (vpv 0) rfl) (ve_fld (C := T.C_Course) rfl T.n_Course_houses (vpv 0) rfl))) ve_int (nomark _)))))), fun ts n Q hl h => ?_⟩
  match ts, h with
  | [t, u], ⟨p, e1, e2, ok, h⟩ =>
    subst e1
    subst e2
    have RB := ok.a.rB
    have hB := ok.a.hB
    have h0 := ok.a.nf.h0
    obtain ⟨MB, M0, sB, rB⟩ := ok.a.bs
    obtain ⟨MB', M0', sB', rB'⟩ := ok.b.bs
    have c1 : CDivW (p.r + p.r') (p.R * p.H) := cdivw M0 MB (by decide)
    unfold oneT othT
    walk_at "w"
    refine brE_andB (decide (p.R = p.R' ∧ (p.r + p.r') % (p.R * p.H) = 0)) (fun c K hK => ?_) (fun c => decide_eq_false fun z => c z.1) h
    walk_at "w"
    rw [show decide ((p.r + p.r') % (p.R * p.H) = 0) = decide (p.R = p.R' ∧ (p.r + p.r') % (p.R * p.H) = 0) from decide_eq_decide.mpr ⟨fun z => ⟨c, z⟩, fun z => z.2⟩]
    exact hK
theorem ok_marks_below (T : Tx w K mg) : FnOk PR w K mg base (L2.CX PR w) 6 T.f_marks_below T.fd_marks_below ["course", "many", "modulus", "low", "high"] (lSp (gK T) 5 (sp_marks_below T)) := by
  refine ok_v (fun _ l b => T.F_marks_below.okX sc_marks_below l b) rfl (fun cdv A outer s H E F0 xq hr => ?_)
  refine ⟨_, (vss_cons (vs_set (i := 5) sc_marks_below.nd rfl (Or.inl rfl) (ve_ix (iv_tup rfl) (ve_call (ok_floor_sums T) (hr.mono (by decide)) (by rfl) T.g_floor_sums T.F_floor_sums.kp T.b_floor_sums .nil (fun _ => .nil) hx_of (va_cons (vpv 1) (va_cons (vpv 2) (va_cons (ve_fld (C := T.C_Course) rfl T.n_Course_rise (vpv 0) rfl) (va_cons (ve_op ov_sub (ve_fld (C := T.C_Course) rfl T.n_Course_start (vpv 0) rfl) (vpv 3)) va_nil))))) ve_int (fun _ _ => rfl)))
      (vss_one (vs_ret (ve_op ov_sub (vpv 5) (ve_ix (iv_tup rfl) (ve_call (ok_floor_sums T) (hr.mono (by decide)) (by rfl) T.g_floor_sums T.F_floor_sums.kp T.b_floor_sums .nil (fun _ => .nil) hx_of (va_cons (vpv 1) (va_cons (vpv 2) (va_cons (ve_fld (C := T.C_Course) rfl T.n_Course_rise (vpv 0) rfl) (va_cons (ve_op ov_sub (ve_fld (C := T.C_Course) rfl T.n_Course_start (vpv 0) rfl) (vpv 4)) va_nil))))) ve_int (fun _ _ => rfl)))))), fun ts n Q hl h => ?_⟩
  match ts, h with
  | [t, .int m, .int M, .int lo, .int hi], ⟨H0, R, s, r, e, ok, m0, M0, mB, MB, lB, hB, h⟩ =>
    subst e
    obtain ⟨_, _, sB, rB⟩ := ok.bs
    walk_at "w"
    refine okQ_T (wh_T m0) (okQ_T (pos_T M0) (okQ_T rfl (okQ_T rfl ⟨_, _, _, _, rfl, rfl, rfl, rfl, m0, M0, mB.mono (by decide), MB.mono (by decide), rB.mono (by decide), (sB.sub lB).mono (by decide), ?_⟩)))
    walk_at "w"
    refine okQ_T (wh_T m0) (okQ_T (pos_T M0) (okQ_T rfl (okQ_T rfl ⟨_, _, _, _, rfl, rfl, rfl, rfl, m0, M0, mB.mono (by decide), MB.mono (by decide), rB.mono (by decide), (sB.sub hB).mono (by decide), ?_⟩)))
    walk_at "w"
    exact h
theorem ok_sent_marks (T : Tx w K mg) : FnOk PR w K mg base (L2.CX PR w) 1 T.f_sent_marks T.fd_sent_marks ["target", "source"] (lSp (gK T) 2 (sp_sent_marks T)) := by
  refine ok_v (fun _ l b => T.F_sent_marks.okX sc_sent_marks l b) rfl (fun cdv A outer s H E F0 xq hr => ?_)
  refine ⟨_, (vss_cons (vs_par2 (i := 2) (j := 3) (ps_par (i := 2) (j := 3) rfl sc_sent_marks.nd rfl rfl (by decide) rfl rfl (va_cons (ve_fld (C := T.C_Course) rfl T.n_Course_run (vpv 0) rfl) (va_cons (ve_fld (C := T.C_Course) rfl T.n_Course_houses (vpv 0) rfl) va_nil)) rfl))
      (vss_cons (vs_asg (vs := [4, 5]) (ve_callB cv_divmod (by rfl) T.z_divmod (by decide +kernel) (va_cons (ve_op ov_sub (ve_fld (C := T.C_Course) rfl T.n_Course_start (vpv 1) rfl) (ve_fld (C := T.C_Course) rfl T.n_Course_start (vpv 0) rfl)) (va_cons (vpv 2) va_nil))) (vg_tup (m := 2) rfl rfl (vgs_cons (vg_name (i := 4) (by decide) sc_sent_marks.nd rfl (Or.inl rfl)) (vgs_cons (vg_name (i := 5) (by decide) sc_sent_marks.nd rfl (Or.inl rfl)) vgs_nil))))
      (vss_cons (vs_if (vt_cmp ov_eqS (ve_op ov_mod (vpv 4) (vpv 3)) ve_int (nomark _)) (vss_one (vs_ret (ve_tup (va_cons (ve_op ov_sub (vpv 2) (vpv 5)) (va_cons (vpv 2) va_nil))))) vss_nil)
      (vss_one (vs_ret (ve_ifExp (vt_cmp ov_eqS (ve_op ov_mod (ve_op ov_add (vpv 4) ve_int) (vpv 3)) ve_int (nomark _)) (ve_tup (va_cons ve_int (va_cons (ve_op ov_sub (vpv 2) (vpv 5)) va_nil))) (ve_tup (va_cons ve_int (va_cons (vpv 2) va_nil))))))))), fun ts n Q hl h => ?_⟩
  match ts, h with
  | [t, u], ⟨p, e1, e2, ok, h⟩ =>
    subst e1
    subst e2
    have R0 := ok.a.nf.R0
    have RB := ok.a.rB
    have h0 := ok.a.nf.h0
    obtain ⟨MB, M0, sB, rB⟩ := ok.a.bs
    obtain ⟨MB', M0', sB', rB'⟩ := ok.b.bs
    have c1 : CDivW (p.s' - p.s) p.R := cdivw R0 RB (by decide)
    unfold smkF at h
    unfold oneT othT
    walk_at "w"
    refine brS_d (fun q => ?_) (fun q => ?_)
    · rw [if_pos q] at h
      walk_at "w"
      exact h
    · rw [if_neg q] at h
      walk_at "w"
      refine brE_d (fun q => ?_) (fun q => ?_)
      · rw [if_pos q] at h
        walk_at "w"
        exact h
      · rw [if_neg q] at h
        walk_at "w"
        exact h
theorem ok_halves (T : Tx w K mg) : FnOk PR w K mg base (L2.CX PR w) 1 T.f_halves T.fd_halves ["number", "houses"] (lSp (gK T) 2 (sp_halves T)) := by
  refine ok_v (fun _ l b => T.F_halves.okX sc_halves l b) rfl (fun cdv A outer s H E F0 xq hr => ?_)
  refine ⟨_, (vss_cons (vs_if (vt_cmp ov_eqS (ve_op ov_mod (vpv 1) ve_int) ve_int (nomark _)) (vss_one (vs_ret (ve_lst (va_cons (ve_op ov_mod (ve_op ov_mul (vpv 0) (ve_op ov_fdiv (ve_op ov_add (vpv 1) ve_int) ve_int)) (vpv 1)) va_nil)))) vss_nil)
      (vss_cons (vs_if (vt_cmp ov_eqS (ve_op ov_mod (vpv 0) ve_int) ve_int (nomark _)) (vss_one (vs_ret (ve_lst va_nil))) vss_nil)
      (vss_cons (vs_set (i := 2) sc_halves.nd rfl (Or.inl rfl) (ve_op ov_mod (ve_op ov_fdiv (vpv 0) ve_int) (ve_op ov_fdiv (vpv 1) ve_int)))
      (vss_one (vs_ret (ve_lst (va_cons (vpv 2) (va_cons (ve_op ov_add (vpv 2) (ve_op ov_fdiv (vpv 1) ve_int)) va_nil)))))))), fun ts n Q hl h => ?_⟩
  match ts, h with
  | [.int i, .int H0], ⟨h0, hB, iB, h⟩ =>
    unfold hlvF at h
    walk_at "w"
    refine brS_d (fun q => ?_) (fun q => ?_)
    · rw [if_pos q] at h
      have c1 : CMulA i ((H0 + 1) / 2) := cmula iB ((hB.add (B.lit (a := 1) (k := 2))).div) (by decide)
      walk_at "w"
      exact h
    · rw [if_neg q] at h
      walk_at "w"
      refine brS_d (fun q2 => ?_) (fun q2 => ?_)
      · rw [if_pos q2] at h
        walk_at "w"
        exact h
      · rw [if_neg q2] at h
        have q0 : 0 < H0 / 2 := by omega
        walk_at "w"
        exact h
end
open PySem L2 DS VL NdefX MT
set_option pp.maxSteps 2000

section
variable {P : Program} {w : World} {K : PySem.W.Frag} {mg : Str → Option Value} {base : Heap}
theorem hlv_len (i H : Int) : (hlvF i H).length ≤ 2 := by
  unfold hlvF
  split
  · exact Nat.le_succ 1
  · split
    · exact Nat.zero_le 2
    · exact Nat.le_refl 2
theorem bel_T {g H : Int} (a : 0 ≤ g) (b : g < H) : isBelT H (.int g) = some true := by
  show some (decide (0 ≤ g) && !decide (H ≤ g)) = _
  rw [decide_eq_true a, decide_eq_false (by omega)]
  rfl
theorem ok_kept_marks (T : Tx w K mg) : FnOk PR w K mg base (L2.CX PR w) 2 T.f_kept_marks T.fd_kept_marks ["target", "source"] (lSp (gK T) 2 (sp_kept_marks T)) := by
  refine ok_v (fun _ l b => T.F_kept_marks.okX sc_kept_marks l b) rfl (fun cdv A outer s H E F0 xq hr => ?_)
  refine ⟨_, (vss_cons (vs_asg (vs := [2, 3]) (ve_tup (va_cons (ve_fld (C := T.C_Course) rfl T.n_Course_run (vpv 0) rfl) (va_cons (ve_fld (C := T.C_Course) rfl T.n_Course_houses (vpv 0) rfl) va_nil))) (vg_tup (m := 2) rfl rfl (vgs_cons (vg_name (i := 2) (by decide) sc_kept_marks.nd rfl (Or.inr rfl)) (vgs_cons (vg_name (i := 3) (by decide) sc_kept_marks.nd rfl (Or.inl rfl)) vgs_nil))))
      (vss_cons (vs_asg (vs := [4, 5]) (ve_callB cv_divmod (by rfl) T.z_divmod (by decide +kernel) (va_cons (ve_op ov_add (ve_fld (C := T.C_Course) rfl T.n_Course_start (vpv 0) rfl) (ve_fld (C := T.C_Course) rfl T.n_Course_start (vpv 1) rfl)) (va_cons (vpv 2) va_nil))) (vg_tup (m := 2) rfl rfl (vgs_cons (vg_name (i := 4) (by decide) sc_kept_marks.nd rfl (Or.inl rfl)) (vgs_cons (vg_name (i := 5) (by decide) sc_kept_marks.nd rfl (Or.inr rfl)) vgs_nil))))
      (vss_cons (vs_setLc (i := 6) (own := [("house", 7)]) rfl sc_kept_marks.nd rfl rfl (sw_true rfl rfl rfl (by decide +kernel)) (vi_list rfl (ve_call (ok_halves T) (hr.mono (by decide)) (by rfl) T.g_halves T.F_halves.kp T.b_halves .nil (fun _ => .nil) hx_of (va_cons (vpv 4) (va_cons (vpv 3) va_nil)))) (blkOk_by (N := N_kept_marks) (sc := defScope s_kept_marks) (by decide +kernel)) (fun _ _ _ _ _ => (vg_name (i := 7) (by decide) sc_kept_marks.nd rfl (.inl rfl))) (fun _ _ _ _ _ => vts_nil) (fun _ _ _ _ _ => (ve_tup (va_cons (ve_op ov_mul (vpv 7) (vpv 2)) (va_cons (ve_op ov_add (ve_op ov_add (ve_op ov_mul (vpv 7) (vpv 2)) (vpv 5)) ve_int) va_nil)))))
      (vss_one (vs_ret (ve_op ov_cat (vpv 6) (ve_lc (own := [("house", 7)]) rfl sc_kept_marks.nd (vi_list rfl (ve_call (ok_halves T) (hr.mono (by decide)) (by rfl) T.g_halves T.F_halves.kp T.b_halves .nil (fun _ => .nil) hx_of (va_cons (ve_op ov_sub (vpv 4) ve_int) (va_cons (vpv 3) va_nil)))) (blkOk_by (N := N_kept_marks) (sc := defScope s_kept_marks) (by decide +kernel)) (fun _ _ _ _ _ => (vg_name (i := 7) (by decide) sc_kept_marks.nd rfl (.inl rfl))) (fun _ _ _ _ _ => vts_nil) (fun _ _ _ _ _ => (ve_tup (va_cons (ve_op ov_add (ve_op ov_add (ve_op ov_mul (vpv 7) (vpv 2)) (vpv 5)) ve_int) (va_cons (ve_op ov_mul (ve_op ov_add (vpv 7) ve_int) (vpv 2)) va_nil))))))))))), fun ts n Q hl h => ?_⟩
  match ts, h with
  | [t, u], ⟨p, e1, e2, ok, h⟩ =>
    subst e1
    subst e2
    have R0 := ok.a.nf.R0
    have RB := ok.a.rB
    have hB := ok.a.hB
    have h0 := ok.a.nf.h0
    obtain ⟨MB, M0, sB, rB⟩ := ok.a.bs
    obtain ⟨MB', M0', sB', rB'⟩ := ok.b.bs
    have c1 : CDivW (p.s + p.s') p.R := cdivw R0 RB (by decide)
    have restB : B 150 ((p.s + p.s') % p.R) := RB.le (Int.emod_nonneg _ (Int.ne_of_gt R0)) (Int.le_of_lt (Int.emod_lt_of_pos _ R0))
    have dB : B 301 ((p.s + p.s') / p.R) := ((sB.add sB').div).mono (by decide)
    unfold oneT othT
    unfold kptF at h
    walk_at "w"
    generalize (p.s + p.s') % p.R = z at *
    generalize (p.s + p.s') / p.R = tn at *
    have l1 := hlv_len tn p.H
    have l2 := hlv_len (tn - 1) p.H
    refine lc_rel (fun t (j : Int) => t = .int j) (fun j => p2T (j * p.R, j * p.R + z + 1)) (RL.map (f := Tr.int) (fun _ => rfl) _) (szl (by rw [List.length_map]; omega)) ?_ ?_
    · rintro t j ml rfl K1 k1
      obtain ⟨j0, jH⟩ := hlv_in h0 ml
      have jB : B 150 j := hB.le j0 (Int.le_of_lt jH)
      have c2 : CMulA j p.R := cmula jB RB (by decide)
      walk_at "w"
      exact k1
    · walk_at "w"
      refine lc_rel (fun t (j : Int) => t = .int j) (fun j => p2T (j * p.R + z + 1, (j + 1) * p.R)) (RL.map (f := Tr.int) (fun _ => rfl) _) (szl (by rw [List.length_map]; omega)) ?_ ?_
      · rintro t j ml rfl K1 k1
        obtain ⟨j0, jH⟩ := hlv_in h0 ml
        have jB : B 150 j := hB.le j0 (Int.le_of_lt jH)
        have c2 : CMulA j p.R := cmula jB RB (by decide)
        have c3 : CMulA (j + 1) p.R := cmula (jB.add (B.lit (a := 1) (k := 2))) RB (by decide)
        walk_at "w"
        exact k1
      · walk_at "w"
        rw [List.map_append, List.map_map, List.map_map] at h
        refine ⟨szl (by rw [List.length_map, List.length_map]; omega), ?_⟩
        exact h
theorem kpt_len (H R s s' : Int) : (kptF H R s s').length ≤ 4 := by
  unfold kptF
  rw [List.length_append, List.length_map, List.length_map]
  have := hlv_len ((s + s') / R) H
  have := hlv_len ((s + s') / R - 1) H
  omega
theorem ok_sent_below (T : Tx w K mg) : FnOk PR w K mg base (L2.CX PR w) 7 T.f_sent_below T.fd_sent_below ["target", "source", "many"] (lSp (gK T) 3 (sp_sent_below T)) := by
  refine ok_v (fun _ l b => T.F_sent_below.okX sc_sent_below l b) rfl (fun cdv A outer s H E F0 xq hr => ?_)
  refine ⟨_, (vss_cons (vs_if (vt_val (ve_call (ok_is_level T) (hr.mono (by decide)) (by rfl) T.g_is_level T.F_is_level.kp T.b_is_level .nil (fun _ => .nil) hx_of (va_cons (vpv 0) (va_cons (vpv 1) va_nil)))) (vss_cons (vs_asg (vs := [3, 4]) (ve_call (ok_sent_marks T) (hr.mono (by decide)) (by rfl) T.g_sent_marks T.F_sent_marks.kp T.b_sent_marks .nil (fun _ => .nil) hx_of (va_cons (vpv 0) (va_cons (vpv 1) va_nil))) (vg_tup (m := 2) rfl rfl (vgs_cons (vg_name (i := 3) (by decide) sc_sent_below.nd rfl (Or.inl rfl)) (vgs_cons (vg_name (i := 4) (by decide) sc_sent_below.nd rfl (Or.inl rfl)) vgs_nil))))
      (vss_one (vs_ret (ve_call (ok_marks_below T) (hr.mono (by decide)) (by rfl) T.g_marks_below T.F_marks_below.kp T.b_marks_below .nil (fun _ => .nil) hx_of (va_cons (vpv 0) (va_cons (vpv 2) (va_cons (ve_fld (C := T.C_Course) rfl T.n_Course_run (vpv 0) rfl) (va_cons (vpv 3) (va_cons (vpv 4) va_nil))))))))) vss_nil)
      (vss_cons (vs_if (vt_val (ve_call (ok_is_opposite T) (hr.mono (by decide)) (by rfl) T.g_is_opposite T.F_is_opposite.kp T.b_is_opposite .nil (fun _ => .nil) hx_of (va_cons (vpv 0) (va_cons (vpv 1) va_nil)))) (vss_cons (vs_set (i := 5) sc_sent_below.nd rfl (Or.inr rfl) (ve_op ov_mul (ve_fld (C := T.C_Course) rfl T.n_Course_run (vpv 0) rfl) (ve_fld (C := T.C_Course) rfl T.n_Course_houses (vpv 0) rfl)))
      (vss_one (vs_ret (ve_op ov_sub (vpv 2) (ve_callB (cv_sum rfl) (by rfl) T.z_sum (by decide +kernel) (va_cons (ve_lc (own := [("low", 3), ("high", 4)]) rfl sc_sent_below.nd (vi_list rfl (ve_call (ok_kept_marks T) (hr.mono (by decide)) (by rfl) T.g_kept_marks T.F_kept_marks.kp T.b_kept_marks .nil (fun _ => .nil) hx_of (va_cons (vpv 0) (va_cons (vpv 1) va_nil)))) (blkOk_by (N := N_sent_below) (sc := defScope s_sent_below) (by decide +kernel)) (fun _ _ _ _ _ => (vg_tup (m := 2) rfl rfl (vgs_cons (vg_name (i := 3) (by decide) sc_sent_below.nd rfl (.inl rfl)) (vgs_cons (vg_name (i := 4) (by decide) sc_sent_below.nd rfl (.inl rfl)) vgs_nil)))) (fun _ _ _ _ _ => vts_nil) (fun _ _ _ _ _ => (ve_call (ok_marks_below T) (hr.mono (by decide)) (by rfl) T.g_marks_below T.F_marks_below.kp T.b_marks_below .nil (fun _ => .nil) passes_no (va_cons (vpv 0) (va_cons (vpv 2) (va_cons (vpv 5) (va_cons (vpv 3) (va_cons (vpv 4) va_nil)))))))) va_nil)))))) vss_nil)
      (vss_cons (vs_if (vt_cmp ov_eqS (ve_fld (C := T.C_Course) rfl T.n_Course_rise (vpv 0) rfl) ve_int (nomark _)) (vss_one (vs_ret (ve_op ov_sub (vpv 2) (ve_meth (vpv 1) T.cl_Course T.m_Course_count (ok_Course_count T) (hr.mono (by decide)) T.b_Course_count .nil (fun _ => .nil) hx_of (va_cons (ve_callO (vpv 0) (callO_of T.F_Course___call__ T.m_Course___call__) (ok_Course___call__ T) (hr.mono (by decide)) T.b_Course___call__ hx_of (va_cons ve_int va_nil)) (va_cons (vpv 2) va_nil)))))) vss_nil)
      (vss_one (vs_ret (ve_op ov_sub (vpv 2) (ve_meth (vpv 0) T.cl_Course T.m_Course_count (ok_Course_count T) (hr.mono (by decide)) T.b_Course_count .nil (fun _ => .nil) hx_of (va_cons (ve_callO (vpv 1) (callO_of T.F_Course___call__ T.m_Course___call__) (ok_Course___call__ T) (hr.mono (by decide)) T.b_Course___call__ hx_of (va_cons ve_int va_nil)) (va_cons (vpv 2) va_nil))))))))), fun ts n Q hl h => ?_⟩
  match ts, h with
  | [t, u, .int m], ⟨p, e1, e2, ok, cn, m0, mB, h⟩ =>
    have nfa := ok.a.nf
    have nfb := ok.b.nf
    have R0 := nfa.R0
    have R0' := nfb.R0
    have RB := ok.a.rB
    have RB' := ok.b.rB
    have hB := ok.a.hB
    have h0 := nfa.h0
    obtain ⟨MB, M0, sB, rB⟩ := ok.a.bs
    obtain ⟨MB', M0', sB', rB'⟩ := ok.b.bs
    walk_at "w"
    refine ⟨p, e1, e2, ?_⟩
    refine brS_d (fun q => ?_) (fun q => ?_)
    · obtain ⟨k1, k2, k3⟩ := smk_ok (H := p.H) (s := p.s) (s' := p.s') R0
      have kB : B 150 (smkF p.H p.R p.s p.s').1 := RB.le k1 (by omega)
      have kB2 : B 150 (smkF p.H p.R p.s p.s').2 := RB.le (by omega) k3
      walk_at "w"
      refine ⟨p, e1, e2, ok, ?_⟩
      subst e1
      unfold oneT
      walk_at "w"
      refine ⟨_, _, _, _, rfl, ok.a, m0, R0, mB.mono (by decide), RB.mono (by decide), kB.mono (by decide), kB2.mono (by decide), ?_⟩
      rw [snt_level h0 R0 nfa.one]
      unfold Two.snt at h
      rw [← q.1, ← q.2] at h
      exact h
    · walk_at "w"
      refine ⟨p, e1, e2, ok, ?_⟩
      refine brS_d (fun q2 => ?_) (fun q2 => ?_)
      · rw [show p.snt m = _ from rfl] at h
        subst e1
        subst e2
        unfold oneT othT
        walk_at "w"
        refine ⟨p, rfl, rfl, ok, ?_⟩
        have kl := kpt_len p.H p.R p.s p.s'
        refine lc_rel (fun t (j : Int × Int) => t = p2T j) (fun j => .int (f1 (p.R * p.H) p.r (p.s - j.1) m.toNat - f1 (p.R * p.H) p.r (p.s - j.2) m.toNat)) (RL.map (f := p2T) (fun _ => rfl) _) (szl (by rw [List.length_map]; omega)) ?_ ?_
        · rintro t j ml rfl K1 k1
          obtain ⟨j0, j1, j2⟩ := kpt_in h0 R0 ml
          unfold p2T
          walk_at "w"
          refine ⟨_, _, _, _, rfl, ok.a, m0, M0, mB.mono (by decide), MB.mono (by decide), (MB.le j0 (by omega)).mono (by decide), (MB.le (by omega) j2).mono (by decide), ?_⟩
          exact k1
        · rw [show (List.map (fun j : Int × Int => Tr.int (f1 (p.R * p.H) p.r (p.s - j.1) m.toNat - f1 (p.R * p.H) p.r (p.s - j.2) m.toNat)) (kptF p.H p.R p.s p.s')) = ((kptF p.H p.R p.s p.s').map fun j => f1 (p.R * p.H) p.r (p.s - j.1) m.toNat - f1 (p.R * p.H) p.r (p.s - j.2) m.toNat).map Tr.int by rw [List.map_map]; rfl]
          refine ⟨_, rfl, ?_⟩
          walk_at "w"
          unfold Two.snt at h
          rw [← q2.1, ← snt_opposite h0 R0 q2.2 m0] at h
          exact h
      · subst e1
        subst e2
        have sc := snt_symm p.H p.R p.s p.r p.R' p.s' p.r' m
        unfold oneT othT
        walk_at "w"
        refine brS_d (fun q3 => ?_) (fun q3 => ?_)
        · walk_at "w"
          have hg : ∀ k, hsC p.H p.R p.s p.r k = hsC p.H p.R p.s p.r 0 := fun k => by unfold hsC; rw [q3, Int.zero_mul, Int.zero_mul]
          have g0 : 0 ≤ hsC p.H p.R p.s p.r 0 := Int.emod_nonneg _ (Int.ne_of_gt h0)
          have gH : hsC p.H p.R p.s p.r 0 < p.H := Int.emod_lt_of_pos _ h0
          have e := snt_rest (r' := p.r') (s' := p.s') R0' h0 g0 gH hg m0
          unfold Two.snt at h
          rw [← e] at h
          exact ⟨_, _, _, _, rfl, ok.a, Int.le_refl 0, B.lit, rfl, _, _, _, _, rfl, ok.b, okQ_T (bel_T g0 gH) (okQ_T (wh_T m0) ⟨_, _, rfl, rfl, m0, mB.mono (by decide), g0, gH, h⟩)⟩
        · walk_at "w"
          have q4 : p.r' = 0 := by
            rcases cn with c | c | c | c
            · exact absurd c q
            · exact absurd c q2
            · exact absurd c q3
            · exact c
          have hg : ∀ k, hsC p.H p.R' p.s' p.r' k = hsC p.H p.R' p.s' p.r' 0 := fun k => by unfold hsC; rw [q4, Int.zero_mul, Int.zero_mul]
          have g0 : 0 ≤ hsC p.H p.R' p.s' p.r' 0 := Int.emod_nonneg _ (Int.ne_of_gt h0)
          have gH : hsC p.H p.R' p.s' p.r' 0 < p.H := Int.emod_lt_of_pos _ h0
          have e := snt_rest (r' := p.r) (s' := p.s) R0 h0 g0 gH hg m0
          unfold Two.snt at h
          rw [sc, ← e] at h
          exact ⟨_, _, _, _, rfl, ok.b, Int.le_refl 0, B.lit, rfl, _, _, _, _, rfl, ok.a, okQ_T (bel_T g0 gH) (okQ_T (wh_T m0) ⟨_, _, rfl, rfl, m0, mB.mono (by decide), g0, gH, h⟩)⟩
end
open PySem L2 DS VL NdefX MT
set_option pp.maxSteps 2000

section
variable {P : Program} {w : World} {K : PySem.W.Frag} {mg : Str → Option Value} {base : Heap}
theorem brE_orB {c : Prop} [Decidable c] {t : RE} {n : Nat} {ρ : List Sl} {Q : VQ} (v : Bool) (h : ¬ c → ∀ K : VQ, K (.bl v) n → t n ρ K) (hc : c → v = true) (q : Q (.bl v) n) : brE (decide c) (vC (.bl true)) t n ρ Q := by
  by_cases e : c
  · rw [decide_eq_true e]
    rw [hc e] at q
    exact q
  · rw [decide_eq_false e]
    exact h e Q q
theorem jt_bs {p : Two} (ok : OkTwo p) : 0 < p.T ∧ B 450 p.T := by
  obtain ⟨a, b, _, _⟩ := jt_ok (s1 := p.s) (s2 := p.s') (r1 := p.r) (r2 := p.r') ok.a.nf.h0 ok.a.nf.R0 ok.b.nf.R0
  exact ⟨a, ((ok.a.rB.mul (ok.b.rB.mul ok.a.hB)).mono (l := 450) (by decide)).le (Int.le_of_lt a) b⟩
theorem tu_bs {H R s r : Int} (ok : CrsOk H R s r) : 0 < tu R H r ∧ B 300 (tu R H r) := by
  obtain ⟨a, b⟩ := tu_nn (r := r) ok.nf.R0 ok.nf.h0
  obtain ⟨MB, M0, _, _⟩ := ok.bs
  have g0 := sp_pos (r := r) M0
  have : tu R H r * 1 ≤ tu R H r * (Int.gcd r (R * H) : Nat) := Int.mul_le_mul_of_nonneg_left (by omega) (Int.le_of_lt a)
  exact ⟨a, MB.le (Int.le_of_lt a) (by omega)⟩
theorem ok_Statement_turn (T : Tx w K mg) : FnOk PR w K mg base (L2.CX PR w) 4 T.f_Statement_turn T.fd_Statement_turn ["self"] (lSp (gK T) 1 (sp_Statement_turn T)) := by
  refine ok_v (fun _ l b => T.F_Statement_turn.okX sc_Statement_turn l b) rfl (fun cdv A outer s H E F0 xq hr => ?_)
  refine ⟨_, (vss_cons (vs_par2 (i := 1) (j := 2) (ps_par (i := 1) (j := 2) rfl sc_Statement_turn.nd rfl rfl (by decide) rfl rfl (va_cons (ve_meth0 (ve_fld (C := T.C_Statement) rfl T.n_Statement_target (vpv 0) rfl) T.cl_Course T.m_Course_turn (ok_Course_turn T) (hr.mono (by decide)) T.b_Course_turn .nil (fun _ => .nil) hx_of) (va_cons (ve_meth0 (ve_fld (C := T.C_Statement) rfl T.n_Statement_source (vpv 0) rfl) T.cl_Course T.m_Course_turn (ok_Course_turn T) (hr.mono (by decide)) T.b_Course_turn .nil (fun _ => .nil) hx_of) va_nil)) rfl))
      (vss_one (vs_ret (ve_op ov_mul (ve_op ov_fdiv (vpv 1) (ve_call (ok_common_factor T) (hr.mono (by decide)) (by rfl) T.g_common_factor T.F_common_factor.kp T.b_common_factor .nil (fun _ => .nil) hx_of (va_cons (vpv 1) (va_cons (vpv 2) va_nil)))) (vpv 2))))), fun ts n Q hl h => ?_⟩
  match ts, h with
  | [t], ⟨p, e, ok, h⟩ =>
    subst e
    obtain ⟨t1, b1⟩ := tu_bs ok.a
    obtain ⟨t2, b2⟩ := tu_bs ok.b
    have g0 := sp_pos (r := tu p.R p.H p.r) t2
    have gB := B.gcd (a := tu p.R p.H p.r) b2 t2
    have c1 : CDivW (tu p.R p.H p.r) (Int.gcd (tu p.R p.H p.r) (tu p.R' p.H p.r') : Nat) := cdivw g0 gB (by decide)
    walk_at "w"
    refine ⟨_, _, _, _, rfl, ok.a, ?_⟩
    walk_at "w"
    refine ⟨_, _, _, _, rfl, ok.b, ?_⟩
    walk_at "w"
    exact h
theorem ok_Statement_is_parallel (T : Tx w K mg) : FnOk PR w K mg base (L2.CX PR w) 2 T.f_Statement_is_parallel T.fd_Statement_is_parallel ["self"] (lSp (gK T) 1 (sp_Statement_is_parallel T)) := by
  refine ok_v (fun _ l b => T.F_Statement_is_parallel.okX sc_Statement_is_parallel l b) rfl (fun cdv A outer s H E F0 xq hr => ?_)
  refine ⟨_, (vss_one (vs_ret (ve_or (ve_call (ok_is_level T) (hr.mono (by decide)) (by rfl) T.g_is_level T.F_is_level.kp T.b_is_level .nil (fun _ => .nil) hx_of (va_cons (ve_fld (C := T.C_Statement) rfl T.n_Statement_target (vpv 0) rfl) (va_cons (ve_fld (C := T.C_Statement) rfl T.n_Statement_source (vpv 0) rfl) va_nil))) (ve_one (ve_call (ok_is_opposite T) (hr.mono (by decide)) (by rfl) T.g_is_opposite T.F_is_opposite.kp T.b_is_opposite .nil (fun _ => .nil) hx_of (va_cons (ve_fld (C := T.C_Statement) rfl T.n_Statement_target (vpv 0) rfl) (va_cons (ve_fld (C := T.C_Statement) rfl T.n_Statement_source (vpv 0) rfl) va_nil))))))), fun ts n Q hl h => ?_⟩
  match ts, h with
  | [t], ⟨p, e, ok, h⟩ =>
    subst e
    walk_at "w"
    refine ⟨p, rfl, rfl, ?_⟩
    refine brE_orB (decide p.Par) (fun c K hK => ?_) (fun c => decide_eq_true (.inl c)) h
    walk_at "w"
    refine ⟨p, rfl, rfl, ok, ?_⟩
    rw [show decide (p.R = p.R' ∧ (p.r + p.r') % (p.R * p.H) = 0) = decide p.Par from decide_eq_decide.mpr ⟨.inr, fun z => z.resolve_left c⟩]
    exact hK
theorem ok_Statement_is_counted (T : Tx w K mg) : FnOk PR w K mg base (L2.CX PR w) 3 T.f_Statement_is_counted T.fd_Statement_is_counted ["self"] (lSp (gK T) 1 (sp_Statement_is_counted T)) := by
  refine ok_v (fun _ l b => T.F_Statement_is_counted.okX sc_Statement_is_counted l b) rfl (fun cdv A outer s H E F0 xq hr => ?_)
  refine ⟨_, (vss_one (vs_ret (ve_or (ve_meth0 (vpv 0) T.cl_Statement T.m_Statement_is_parallel (ok_Statement_is_parallel T) (hr.mono (by decide)) T.b_Statement_is_parallel .nil (fun _ => .nil) hx_of) (ve_or (ve_cmp ov_eqS (ve_fld (C := T.C_Course) rfl T.n_Course_rise (ve_fld (C := T.C_Statement) rfl T.n_Statement_target (vpv 0) rfl) rfl) ve_int (nomark _)) (ve_one (ve_cmp ov_eqS (ve_fld (C := T.C_Course) rfl T.n_Course_rise (ve_fld (C := T.C_Statement) rfl T.n_Statement_source (vpv 0) rfl) rfl) ve_int (nomark _))))))), fun ts n Q hl h => ?_⟩
  match ts, h with
  | [t], ⟨p, e, ok, h⟩ =>
    subst e
    walk_at "w"
    refine ⟨p, rfl, ok, ?_⟩
    have e1 : p.Cnt ↔ p.Par ∨ (p.r = 0 ∨ p.r' = 0) := or_assoc.symm
    refine brE_orB (decide p.Cnt) (fun c K hK => ?_) (fun c => decide_eq_true (e1.mpr (.inl c))) h
    walk_at "w"
    refine brE_orB (decide p.Cnt) (fun c2 K2 hK2 => ?_) (fun c2 => decide_eq_true (e1.mpr (.inr (.inl c2)))) hK
    walk_at "w"
    rw [show decide (p.r' = 0) = decide p.Cnt from decide_eq_decide.mpr ⟨fun z => e1.mpr (.inr (.inr z)), fun z => ((e1.mp z).resolve_left c).resolve_left c2⟩]
    exact hK2
theorem ok_Statement_need_counted (T : Tx w K mg) : FnOk PR w K mg base (L2.CX PR w) 4 T.f_Statement_need_counted T.fd_Statement_need_counted ["self"] (lSp (gK T) 1 (sp_Statement_need_counted T)) := by
  refine ok_v (fun _ l b => T.F_Statement_need_counted.okX sc_Statement_need_counted l b) rfl (fun cdv A outer s H E F0 xq hr => ?_)
  refine ⟨_, (vss_one (vs_if (vt_not (vt_val (ve_meth0 (vpv 0) T.cl_Statement T.m_Statement_is_counted (ok_Statement_is_counted T) (hr.mono (by decide)) T.b_Statement_is_counted .nil (fun _ => .nil) hx_of))) (vss_one (vs_raise0 (C := T.C_NotTold) (ps_raise rfl (takes_of rfl rfl rfl rfl) (pmk_own0 PySem.F.excBase_ValueError T.x0_NotTold T.gC_NotTold T.k0_NotTold (raises_own T.b0_NotTold T.t0_NotTold) (by exact rfl))))) vss_nil)), fun ts n Q hl h => ?_⟩
  match ts, h with
  | [t], ⟨p, e, ok, h⟩ =>
    subst e
    walk_at "w"
    refine ⟨p, rfl, ok, ?_⟩
    refine brS_n (fun q => ?_) (fun q => ?_)
    · rw [if_neg q] at h
      walk_at "w"
      exact h
    · rw [if_pos q] at h
      walk_at "w"
      exact h
theorem ok_Statement_sent (T : Tx w K mg) : FnOk PR w K mg base (L2.CX PR w) 8 T.f_Statement_sent T.fd_Statement_sent ["self", "many"] (lSp (gK T) 2 (sp_Statement_sent T)) := by
  refine ok_v (fun _ l b => T.F_Statement_sent.okX sc_Statement_sent l b) rfl (fun cdv A outer s H E F0 xq hr => ?_)
  refine ⟨_, (vss_cons (vs_expr (ve_call (ok_need_whole T) (hr.mono (by decide)) (by rfl) T.g_need_whole T.F_need_whole.kp T.b_need_whole .nil (fun _ => .nil) hx_of (va_cons (vpv 1) va_nil)))
      (vss_cons (vs_expr (ve_meth0 (vpv 0) T.cl_Statement T.m_Statement_need_counted (ok_Statement_need_counted T) (hr.mono (by decide)) T.b_Statement_need_counted .nil (fun _ => .nil) hx_of))
      (vss_one (vs_ret (ve_call (ok_sent_below T) (hr.mono (by decide)) (by rfl) T.g_sent_below T.F_sent_below.kp T.b_sent_below .nil (fun _ => .nil) hx_of (va_cons (ve_fld (C := T.C_Statement) rfl T.n_Statement_target (vpv 0) rfl) (va_cons (ve_fld (C := T.C_Statement) rfl T.n_Statement_source (vpv 0) rfl) (va_cons (vpv 1) va_nil)))))))), fun ts n Q hl h => ?_⟩
  match ts, h with
  | [t, u], ⟨p, e, ok, h⟩ =>
    subst e
    walk_at "w"
    refine okQ_mono h fun h1 => ⟨rfl, rfl, rfl, p, rfl, ok, ?_⟩
    by_cases c : p.Cnt
    · rw [if_pos c] at h1 ⊢
      obtain ⟨m, e1, m0, mB, h2⟩ := h1
      subst e1
      walk_at "w"
      exact ⟨p, rfl, rfl, ok, c, m0, mB, h2⟩
    · rw [if_neg c] at h1 ⊢
      exact h1
theorem ok_Statement_item_within (T : Tx w K mg) : FnOk PR w K mg base (L2.CX PR w) 8 T.f_Statement_item_within T.fd_Statement_item_within ["self", "turn", "each", "number"] (lSp (gK T) 4 (sp_Statement_item_within T)) := by
  refine ok_v (fun _ l b => T.F_Statement_item_within.okX sc_Statement_item_within l b) rfl (fun cdv A outer s H E F0 xq hr => ?_)
  refine ⟨_, (vss_cons (vs_par2 (i := 4) (j := 5) (ps_par (i := 4) (j := 5) rfl sc_Statement_item_within.nd rfl rfl (by decide) rfl rfl (va_cons ve_int (va_cons (ve_op ov_fdiv (ve_op ov_mul (vpv 3) (vpv 1)) (vpv 2)) va_nil)) rfl))
      (vss_cons (vs_par2 (i := 6) (j := 7) (ps_par (i := 6) (j := 7) rfl sc_Statement_item_within.nd rfl rfl (by decide) rfl rfl (va_cons (vpv 5) (va_cons (vpv 5) va_nil)) rfl))
      (vss_cons (vs_while own_of (vt_cmp ov_gt (ve_call (ok_sent_below T) (hr.mono (by decide)) (by rfl) T.g_sent_below T.F_sent_below.kp T.b_sent_below .nil (fun _ => .nil) hx_of (va_cons (ve_fld (C := T.C_Statement) rfl T.n_Statement_target (vpv 0) rfl) (va_cons (ve_fld (C := T.C_Statement) rfl T.n_Statement_source (vpv 0) rfl) (va_cons (vpv 6) va_nil)))) (vpv 3) (nomark _)) (vss_one (vs_par2 (i := 6) (j := 4) (ps_par (i := 6) (j := 4) rfl sc_Statement_item_within.nd rfl rfl (by decide) rfl rfl (va_cons (ve_callB (cv_max2 rfl) (by rfl) T.z_max (by decide +kernel) (va_cons ve_int (va_cons (ve_op ov_sub (vpv 6) (vpv 4)) va_nil))) (va_cons (ve_op ov_mul ve_int (vpv 4)) va_nil)) rfl))))
      (vss_cons (vs_set (i := 4) sc_Statement_item_within.nd rfl (Or.inl rfl) ve_int)
      (vss_cons (vs_while own_of (vt_cmp ov_le (ve_call (ok_sent_below T) (hr.mono (by decide)) (by rfl) T.g_sent_below T.F_sent_below.kp T.b_sent_below .nil (fun _ => .nil) hx_of (va_cons (ve_fld (C := T.C_Statement) rfl T.n_Statement_target (vpv 0) rfl) (va_cons (ve_fld (C := T.C_Statement) rfl T.n_Statement_source (vpv 0) rfl) (va_cons (ve_op ov_add (vpv 7) ve_int) va_nil)))) (vpv 3) (nomark _)) (vss_one (vs_par2 (i := 7) (j := 4) (ps_par (i := 7) (j := 4) rfl sc_Statement_item_within.nd rfl rfl (by decide) rfl rfl (va_cons (ve_callB (cv_min2 rfl) (by rfl) T.z_min (by decide +kernel) (va_cons (ve_op ov_sub (vpv 1) ve_int) (va_cons (ve_op ov_add (vpv 7) (vpv 4)) va_nil))) (va_cons (ve_op ov_mul ve_int (vpv 4)) va_nil)) rfl))))
      (vss_cons (vs_while own_of (vt_cmp ov_lt (vpv 6) (vpv 7) (nomark _)) (vss_cons (vs_set (i := 8) sc_Statement_item_within.nd rfl (Or.inl rfl) (ve_op ov_fdiv (ve_op ov_add (vpv 6) (vpv 7)) ve_int))
      (vss_one (vs_if (vt_cmp ov_gt (ve_call (ok_sent_below T) (hr.mono (by decide)) (by rfl) T.g_sent_below T.F_sent_below.kp T.b_sent_below .nil (fun _ => .nil) hx_of (va_cons (ve_fld (C := T.C_Statement) rfl T.n_Statement_target (vpv 0) rfl) (va_cons (ve_fld (C := T.C_Statement) rfl T.n_Statement_source (vpv 0) rfl) (va_cons (ve_op ov_add (vpv 8) ve_int) va_nil)))) (vpv 3) (nomark _)) (vss_one (vs_set (i := 7) sc_Statement_item_within.nd rfl (Or.inl rfl) (vpv 8))) (vss_one (vs_set (i := 6) sc_Statement_item_within.nd rfl (Or.inl rfl) (ve_op ov_add (vpv 8) ve_int)))))))
      (vss_one (vs_ret (vpv 6))))))))), fun ts n Q hl h => ?_⟩
  match ts, h with
  | [t, .int tn, .int each, .int c], ⟨p, e, ok, cn, e1, e2, c0, cE, h⟩ =>
    subst e
    obtain ⟨T0, TB⟩ := jt_bs ok
    rw [← e1] at T0 TB
    have E0 : 0 < each := by omega
    have snn : ∀ m, 0 ≤ p.snt m ∧ (0 ≤ m → p.snt m ≤ m) := fun m => cnB_nn _ m
    have ET : each ≤ tn := by rw [e2, e1]; rw [e1] at T0; exact (snn p.T).2 (Int.le_of_lt T0)
    have EB : B 450 each := TB.le (Int.le_of_lt E0) ET
    have cB : B 450 c := EB.le c0 (Int.le_of_lt cE)
    have c1 : CMulA c tn := cmula cB TB (by decide)
    have c2 : CDivW (c * tn) each := cdivw E0 EB (by decide)
    have a0 : 0 ≤ c * tn / each := Int.ediv_nonneg (Int.mul_nonneg c0 (Int.le_of_lt T0)) (Int.le_of_lt E0)
    have a1 : c * tn / each < tn := Int.ediv_lt_of_lt_mul E0 (by rw [Int.mul_comm tn each]; exact Int.mul_lt_mul_of_pos_right cE T0)
    have mono : ∀ {m k : Int}, 0 ≤ m → m ≤ k → p.snt m ≤ p.snt k := fun a b => cnB_mono _ a b
    have z0 : p.snt 0 = 0 := rfl
    walk_at "w"
    generalize c * tn / each = a at *
    have aB : B 450 a := TB.le a0 (Int.le_of_lt a1)
    refine ⟨fun k n' ρ => ∃ low wide, n' = n ∧ k = Int.toNat low ∧ 0 ≤ low ∧ low ≤ a ∧ 1 ≤ wide ∧ wide ≤ 2 * a + 2 ∧ (0 < low → low = a - (wide - 1)) ∧ ρ = [.v (twoT T p), .v (.int tn), .v (.int each), .v (.int c), .v (.int wide), .v (.int a), .v (.int low), .v (.int a), .un], ⟨_, a, 1, rfl, rfl, a0, Int.le_refl a, Int.le_refl 1, by omega, fun _ => by omega, rfl⟩, ?_⟩
    rintro k n' ρ ⟨low, wide, rfl, rfl, l0, la, w1, w2, hl, rfl⟩
    have lB : B 450 low := aB.le l0 la
    have wB : B 460 wide := (((B.lit (a := 2) (k := 2)).mul aB).add (B.lit (a := 2) (k := 2))).le (Int.le_trans (by decide) w1) w2 |>.mono (by decide)
    unfold twoT stmT
    walk_at "w"
    refine ⟨p, rfl, rfl, ok, cn, l0, lB.mono (by decide), ?_⟩
    by_cases q : c < p.snt low
    · rw [if_pos (decide_eq_true q)]
      have lp : 0 < low := by
        refine Int.not_le.mp fun z => ?_
        have : low = 0 := by omega
        rw [this, z0] at q
        omega
      have hl2 := hl lp
      walk_at "w"
      refine ⟨_, (by split <;> omega), _, _, rfl, rfl, by split <;> omega, by split <;> omega, by omega, by omega, fun z => ?_, rfl⟩
      split at z
      · rw [if_pos (by assumption)]; omega
      · omega
    · rw [if_neg (by simp; omega)]
      clear hl w1 w2 wB wide
      have sl : p.snt low ≤ c := by omega
      walk_at "w"
      refine ⟨fun k n1 ρ => ∃ high wide, n1 = n' ∧ k = Int.toNat (tn - 1 - high) ∧ a ≤ high ∧ high ≤ tn - 1 ∧ 1 ≤ wide ∧ wide ≤ 2 * tn + 2 ∧ (high < tn - 1 → high = a + (wide - 1)) ∧ ρ = [.v (twoT T p), .v (.int tn), .v (.int each), .v (.int c), .v (.int wide), .v (.int a), .v (.int low), .v (.int high), .un], ⟨_, a, 1, rfl, rfl, Int.le_refl a, by omega, Int.le_refl 1, by omega, fun _ => by omega, rfl⟩, ?_⟩
      rintro k n1 ρ ⟨high, wide, rfl, rfl, l1, la1, w1, w2, hl, rfl⟩
      have hB : B 450 high := TB.le (by omega) (by omega)
      have wB : B 460 wide := (((B.lit (a := 2) (k := 2)).mul TB).add (B.lit (a := 2) (k := 2))).le (Int.le_trans (by decide) w1) w2 |>.mono (by decide)
      unfold twoT stmT
      walk_at "w"
      refine ⟨p, rfl, rfl, ok, cn, by omega, (hB.add (B.lit (a := 1) (k := 2))).mono (by decide), ?_⟩
      by_cases q2 : p.snt (high + 1) ≤ c
      · rw [if_pos (decide_eq_true q2)]
        have lp : high < tn - 1 := by
          refine Int.not_le.mp fun z => ?_
          have : high + 1 = tn := by omega
          rw [this, e1, ← e2] at q2
          omega
        have hl2 := hl lp
        walk_at "w"
        refine ⟨_, (by split <;> omega), _, _, rfl, rfl, by split <;> omega, by split <;> omega, by omega, by omega, fun z => ?_, rfl⟩
        split at z
        · rw [if_pos (by assumption)]; omega
        · omega
      · rw [if_neg (by simp; omega)]
        clear hl w1 w2 wB
        have sh : c < p.snt (high + 1) := by omega
        have lh : low ≤ high := by omega
        walk_at "w"
        refine ⟨fun k n' ρ => ∃ low high s4 s8, n' = n1 ∧ k = Int.toNat (high - low) ∧ 0 ≤ low ∧ low ≤ high ∧ high ≤ tn - 1 ∧ p.snt low ≤ c ∧ c < p.snt (high + 1) ∧ ρ = [.v (twoT T p), .v (.int tn), .v (.int each), .v (.int c), s4, .v (.int a), .v (.int low), .v (.int high), s8], ⟨_, low, high, _, _, rfl, rfl, l0, lh, la1, sl, sh, rfl⟩, ?_⟩
        clear hB lB l0 la l1 la1 sl sh lh q q2 low high
        rintro k n' ρ ⟨low, high, s4, s8, rfl, rfl, l0, lh, hT, sl, sh, rfl⟩
        have lB : B 450 low := TB.le l0 (by omega)
        have hB : B 450 high := TB.le (by omega) (by omega)
        unfold twoT stmT
        walk_at "v"
        by_cases q : low < high
        · rw [if_pos (decide_eq_true q)]
          walk_at "w"
          refine ⟨p, rfl, rfl, ok, cn, by omega, ((((lB.add hB).div).add (B.lit (a := 1) (k := 2))).mono (by decide)), ?_⟩
          refine brS_d (fun q2 => ?_) (fun q2 => ?_)
          · walk_at "w"
            exact ⟨_, (by omega), _, _, _, _, rfl, rfl, l0, by omega, by omega, sl, q2, rfl⟩
          · walk_at "w"
            exact ⟨_, (by omega), _, _, _, _, rfl, rfl, by omega, by omega, hT, by omega, sh, rfl⟩
        · rw [if_neg (by simp; omega)]
          walk_at "w"
          have : low = high := by omega
          subst this
          exact h low (IsItem.of l0 sl sh) (by omega)
theorem snt_per {p : Two} (ok : OkTwo p) : ∀ k, 0 ≤ k → p.sb (k + p.T) = p.sb k := fun k _ => snt_turn ok.a.nf.h0 ok.a.nf.R0 ok.b.nf.R0 k
theorem snt_each {p : Two} (ok : OkTwo p) (ns : ¬ p.Sil) : 0 < p.snt p.T := snt_pos ok.a.nf ok.b.nf ns
theorem ok_Statement_sent_item (T : Tx w K mg) : FnOk PR w K mg base (L2.CX PR w) 9 T.f_Statement_sent_item T.fd_Statement_sent_item ["self", "number"] (lSp (gK T) 2 (sp_Statement_sent_item T)) := by
  refine ok_v (fun _ l b => T.F_Statement_sent_item.okX sc_Statement_sent_item l b) rfl (fun cdv A outer s H E F0 xq hr => ?_)
  refine ⟨_, (vss_cons (vs_expr (ve_call (ok_need_whole T) (hr.mono (by decide)) (by rfl) T.g_need_whole T.F_need_whole.kp T.b_need_whole .nil (fun _ => .nil) hx_of (va_cons (vpv 1) va_nil)))
      (vss_cons (vs_expr (ve_meth0 (vpv 0) T.cl_Statement T.m_Statement_need_counted (ok_Statement_need_counted T) (hr.mono (by decide)) T.b_Statement_need_counted .nil (fun _ => .nil) hx_of))
      (vss_cons (vs_if (vt_val (ve_meth0 (vpv 0) T.cl_Statement T.m_Statement_is_silent (ok_Statement_is_silent T) (hr.mono (by decide)) T.b_Statement_is_silent .nil (fun _ => .nil) hx_of)) (vss_one (vs_ret ve_non)) vss_nil)
      (vss_cons (vs_set (i := 2) sc_Statement_sent_item.nd rfl (Or.inl rfl) (ve_meth0 (vpv 0) T.cl_Statement T.m_Statement_turn (ok_Statement_turn T) (hr.mono (by decide)) T.b_Statement_turn .nil (fun _ => .nil) hx_of))
      (vss_cons (vs_set (i := 3) sc_Statement_sent_item.nd rfl (Or.inl rfl) (ve_call (ok_sent_below T) (hr.mono (by decide)) (by rfl) T.g_sent_below T.F_sent_below.kp T.b_sent_below .nil (fun _ => .nil) hx_of (va_cons (ve_fld (C := T.C_Statement) rfl T.n_Statement_target (vpv 0) rfl) (va_cons (ve_fld (C := T.C_Statement) rfl T.n_Statement_source (vpv 0) rfl) (va_cons (vpv 2) va_nil)))))
      (vss_one (vs_ret (ve_op ov_add (ve_op ov_mul (ve_op ov_fdiv (vpv 1) (vpv 3)) (vpv 2)) (ve_meth (vpv 0) T.cl_Statement T.m_Statement_item_within (ok_Statement_item_within T) (hr.mono (by decide)) T.b_Statement_item_within .nil (fun _ => .nil) hx_of (va_cons (vpv 2) (va_cons (vpv 3) (va_cons (ve_op ov_mod (vpv 1) (vpv 3)) va_nil)))))))))))), fun ts n Q hl h => ?_⟩
  match ts, h with
  | [t, u], ⟨p, e, ok, h⟩ =>
    subst e
    walk_at "w"
    refine okQ_mono h fun h1 => ⟨rfl, rfl, rfl, p, rfl, ok, ?_⟩
    by_cases c : p.Cnt
    · rw [if_pos c] at h1 ⊢
      obtain ⟨m, e1, m0, mB, h2⟩ := h1
      subst e1
      walk_at "w"
      refine ⟨_, _, _, _, _, _, _, _, rfl, ?_⟩
      obtain ⟨T0, TB⟩ := jt_bs ok
      refine brS_d (fun q => ?_) (fun q => ?_)
      · walk_at "w"
        exact h2.1 q.2
      · have ns : ¬ p.Sil := fun z => q ⟨rfl, z⟩
        have E0 := snt_each ok ns
        have ET : p.snt p.T ≤ p.T := (cnB_nn p.sb p.T).2 (Int.le_of_lt T0)
        have EB : B 450 (p.snt p.T) := TB.le (Int.le_of_lt E0) ET
        have m1 := Int.emod_nonneg m (Int.ne_of_gt E0)
        have m2 := Int.emod_lt_of_pos m E0
        have me := Int.emod_add_mul_ediv m (p.snt p.T)
        have d0 : 0 ≤ m / p.snt p.T := Int.ediv_nonneg m0 (Int.le_of_lt E0)
        have c1 : CDivW m (p.snt p.T) := cdivw E0 EB (by decide)
        have c2 : CMulA (m / p.snt p.T) p.T := cmula mB.div TB (by decide)
        walk_at "w"
        refine ⟨p, rfl, ok, rfl, rfl, rfl, p, rfl, rfl, ok, c, Int.le_of_lt T0, TB.mono (by decide), ?_⟩
        walk_at "w"
        refine ⟨p, rfl, ok, c, rfl, rfl, m1, m2, fun i hi hT => ?_⟩
        obtain ⟨j, hj⟩ := Int.eq_ofNat_of_zero_le d0
        have it := hi.turn (Int.le_of_lt T0) (snt_per ok) j
        have i0 := hi.i0
        rw [show (j : Int) * cnB p.sb p.T + m % p.snt p.T = m by
          rw [← hj, Int.mul_comm]; have : cnB p.sb p.T = p.snt p.T := rfl; rw [this]; omega, ← hj] at it
        refine h2.2 ns _ it (fun z => ?_) ?_
        · rw [Int.ediv_eq_zero_of_lt m0 z, Int.zero_mul]; omega
        · exact ((mB.div.mul TB).add (TB.le i0 (Int.le_of_lt hT))).mono (by decide)
    · rw [if_neg c] at h1 ⊢
      exact h1
theorem ok_Statement_next_sent (T : Tx w K mg) : FnOk PR w K mg base (L2.CX PR w) 10 T.f_Statement_next_sent T.fd_Statement_next_sent ["self", "k"] (lSp (gK T) 2 (sp_Statement_next_sent T)) := by
  refine ok_v (fun _ l b => T.F_Statement_next_sent.okX sc_Statement_next_sent l b) rfl (fun cdv A outer s H E F0 xq hr => ?_)
  refine ⟨_, (vss_cons (vs_expr (ve_call (ok_need_whole T) (hr.mono (by decide)) (by rfl) T.g_need_whole T.F_need_whole.kp T.b_need_whole .nil (fun _ => .nil) hx_of (va_cons (vpv 1) va_nil)))
      (vss_cons (vs_expr (ve_meth0 (vpv 0) T.cl_Statement T.m_Statement_need_counted (ok_Statement_need_counted T) (hr.mono (by decide)) T.b_Statement_need_counted .nil (fun _ => .nil) hx_of))
      (vss_one (vs_ret (ve_meth (vpv 0) T.cl_Statement T.m_Statement_sent_item (ok_Statement_sent_item T) (hr.mono (by decide)) T.b_Statement_sent_item .nil (fun _ => .nil) hx_of (va_cons (ve_call (ok_sent_below T) (hr.mono (by decide)) (by rfl) T.g_sent_below T.F_sent_below.kp T.b_sent_below .nil (fun _ => .nil) hx_of (va_cons (ve_fld (C := T.C_Statement) rfl T.n_Statement_target (vpv 0) rfl) (va_cons (ve_fld (C := T.C_Statement) rfl T.n_Statement_source (vpv 0) rfl) (va_cons (vpv 1) va_nil)))) va_nil)))))), fun ts n Q hl h => ?_⟩
  match ts, h with
  | [t, u], ⟨p, e, ok, h⟩ =>
    subst e
    walk_at "w"
    refine okQ_mono h fun h1 => ⟨rfl, rfl, rfl, p, rfl, ok, ?_⟩
    by_cases c : p.Cnt
    · rw [if_pos c] at h1 ⊢
      obtain ⟨m, e1, m0, mB, h2⟩ := h1
      subst e1
      walk_at "w"
      refine ⟨p, rfl, rfl, ok, c, m0, mB.mono (by decide), rfl, p, rfl, ok, ?_⟩
      have nn := cnB_nn p.sb m
      unfold cntQ
      rw [if_pos c]
      exact okQ_T (wh_T nn.1) ⟨_, rfl, nn.1, mB.le nn.1 (nn.2 m0), h2⟩
    · rw [if_neg c] at h1 ⊢
      exact h1
end
open PySem L2 DS VL NdefX MT
set_option pp.maxSteps 2000

section
variable {P : Program} {w : World} {K : PySem.W.Frag} {mg : Str → Option Value} {base : Heap}
theorem nat_of {a : Int} (h : 0 ≤ a) : ∃ k : Nat, a = ((k : Nat) : Int) := ⟨a.toNat, by omega⟩
theorem brE_jnb {k : Bool} {t u : RE} {n : Nat} {ρ : List Sl} {Q : VQ} (I : Tr → Nat → Prop) (h : ∀ R : VQ, (∀ t n, I t n → R t n) → brE k t u n ρ R) (q : ∀ t n, I t n → Q t n) : brE k t u n ρ Q := h Q q
theorem brT_jn {k : Bool} {t u : RT} {n : Nat} {ρ : List Sl} {C : Bool → Nat → Prop} (I : Bool → Nat → Prop) (h : ∀ R : Bool → Nat → Prop, (∀ b n, I b n → R b n) → brT k t u n ρ R) (q : ∀ b n, I b n → C b n) : brT k t u n ρ C := h C q
theorem ok__law_pick (T : Tx w K mg) : FnOk PR w K mg base (L2.CX PR w) 2 T.f__law_pick T.fd__law_pick ["_law_pen_here", "_law_menu"] (lSp (gK T) 2 (vpick)) := by
  refine ok_v (fun _ l b => T.F__law_pick.okX sc__law_pick l b) rfl (fun cdv A outer s H E F0 xq hr => ?_)
  refine ⟨_, (vss_one (vs_ret (ve_ix iv_list (vpv 1) (ve_call (ok__law_draw T) (hr.mono (by decide)) (by rfl) T.g__law_draw T.F__law_draw.kp T.b__law_draw .nil (fun _ => .nil) hx_of (va_cons (vpv 0) (va_cons (ve_callB (cv_len rfl) (by rfl) T.z_len PySem.boot_len (va_cons (vpv 1) va_nil)) va_nil))) (fun _ _ => rfl)))), fun ts n Q hl h => ?_⟩
  match ts, h with
  | [.pen, .lst us], ⟨h0, h1, hn, h⟩ =>
    walk_at "w"
    intro d d0 d1
    have hd : d.toNat < us.length := by omega
    exact ⟨us[d.toNat], atI_at (j := d.toNat) (by omega) (List.getElem?_eq_getElem hd), h _ (List.getElem_mem hd)⟩
theorem ok__law_great (T : Tx w K mg) : FnOk PR w K mg base (L2.CX PR w) 2 T.f__law_great T.fd__law_great ["_law_pen_here", "_law_figures"] (lSp (gK T) 2 (sp__law_great T)) := by
  refine ok_v (fun _ l b => T.F__law_great.okX sc__law_great l b) rfl (fun cdv A outer s H E F0 xq hr => ?_)
  refine ⟨_, (vss_cons (vs_set (i := 2) sc__law_great.nd rfl (Or.inl rfl) ve_int)
      (vss_cons (vs_for (vs := [3]) own_of rfl (vi_range1 (by rfl) T.z_range (va_cons (ve_op ov_add ve_int (ve_call (ok__law_draw T) (hr.mono (by decide)) (by rfl) T.g__law_draw T.F__law_draw.kp T.b__law_draw .nil (fun _ => .nil) hx_of (va_cons (vpv 0) (va_cons (ve_op ov_fdiv (vpv 1) ve_int) va_nil)))) va_nil)) (vg_name (i := 3) (by decide) sc__law_great.nd rfl (Or.inl rfl))
      (vss_one (vs_set (i := 2) sc__law_great.nd rfl (Or.inl rfl) (ve_op ov_add (ve_op ov_mul (vpv 2) (ve_op ov_pow ve_int ve_int)) (ve_call (ok__law_draw T) (hr.mono (by decide)) (by rfl) T.g__law_draw T.F__law_draw.kp T.b__law_draw .nil (fun _ => .nil) hx_of (va_cons (vpv 0) (va_cons (ve_op ov_pow ve_int ve_int) va_nil)))))))
      (vss_one (vs_ret (vpv 2))))), fun ts n Q hl h => ?_⟩
  match ts, h with
  | [.pen, .int f], ⟨f0, f1, hn, h⟩ =>
    walk_at "w"
    intro d d0 d1
    walk_at "w"
    refine for_inv (fun j n' ρ => n' ≤ n + 1 + j ∧ ∃ fd s, ρ = [.v .pen, .v (.int f), .v (.int fd), s] ∧ 0 ≤ fd ∧ B (24 * j) fd) ⟨Nat.le_refl _, 0, _, rfl, by decide, (show (0 : Int).natAbs < 2 ^ (24 * 0) by decide)⟩ ?_ ?_
    · rintro j t n' ρ hj ⟨hn', fd, s, rfl, g0, g1⟩ K' hK
      obtain ⟨rfl, hj⟩ := rngT_get hj
      have p7 : (10 : Int) ^ (7 : Int).toNat = 10000000 := by decide
      have c1 : CMulA fd 10000000 := CMulA.s2 (by decide) (by decide)
      walk_at "w"
      rw [p7]
      walk_at "w"
      intro e e0 e1
      walk_at "w"
      refine hK _ _ ⟨by omega, _, _, rfl, by omega, ?_⟩
      have g1 : fd.natAbs < 2 ^ (24 * j) := g1
      show (fd * 10000000 + e).natAbs < 2 ^ (24 * (j + 1))
      rw [Nat.mul_add, Nat.pow_add, show (2 : Nat) ^ (24 * 1) = 16777216 from rfl]
      generalize (2 : Nat) ^ (24 * j) = X at *
      omega
    · rintro n' ρ ⟨hn', fd, s, rfl, g0, g1⟩
      rw [rngT_len] at hn' g1
      walk_at "w"
      exact h _ _ g0 (g1.mono (by omega)) (by omega)
theorem ok__law_factor (T : Tx w K mg) : FnOk PR w K mg base (L2.CX PR w) 1 T.f__law_factor T.fd__law_factor ["_law_one", "_law_other"] (lSp (gK T) 2 (sp__law_factor T)) := by
  refine ok_v (fun _ l b => T.F__law_factor.okX sc__law_factor l b) rfl (fun cdv A outer s H E F0 xq hr => ?_)
  refine ⟨_, (vss_cons (vs_par2 (i := 2) (j := 3) (ps_par (i := 2) (j := 3) rfl sc__law_factor.nd rfl rfl (by decide) rfl rfl (va_cons (vpv 0) (va_cons (vpv 1) va_nil)) rfl))
      (vss_cons (vs_while own_of (vt_cmp ov_gt (vpv 3) ve_int (nomark _)) (vss_one (vs_par2 (i := 2) (j := 3) (ps_par (i := 2) (j := 3) rfl sc__law_factor.nd rfl rfl (by decide) rfl rfl (va_cons (vpv 3) (va_cons (ve_op ov_mod (ve_callTy cv_int (by rfl) T.z_int (by decide +kernel) (va_cons (vpv 2) va_nil)) (vpv 3)) va_nil)) rfl))))
      (vss_one (vs_ret (vpv 2))))), fun ts n Q hl h => ?_⟩
  match ts, h with
  | [.int a, .int b], ⟨b0, a0, h⟩ =>
    walk_at "w"
    refine ⟨fun k n' ρ => ∃ x y : Int, n' = n ∧ k = y.toNat ∧ 0 ≤ y ∧ 0 ≤ x ∧ Int.gcd x y = Int.gcd a b ∧ ρ = [.v (.int a), .v (.int b), .v (.int x), .v (.int y)], ⟨_, a, b, rfl, rfl, b0, a0, rfl, rfl⟩, ?_⟩
    rintro k n' ρ ⟨x, y, rfl, rfl, y0, x0, g, rfl⟩
    walk_at "v"
    by_cases p : 0 < y
    · rw [if_pos (decide_eq_true p)]
      walk_at "w"
      have m0 := Int.emod_nonneg x (Int.ne_of_gt p)
      have m1 := Int.emod_lt_of_pos x p
      exact ⟨_, (by omega), y, x % y, rfl, rfl, m0, y0, by rw [gcd_step p, g], rfl⟩
    · have : y = 0 := by omega
      subst this
      rw [if_neg (by simp)]
      walk_at "w"
      rw [← g, Int.gcd_zero_right] at h
      rw [show x = ((x.natAbs : Nat) : Int) by omega]
      exact h
theorem ok__law_house (T : Tx w K mg) : FnOk PR w K mg base (L2.CX PR w) 1 T.f__law_house T.fd__law_house ["_law_line_here", "_law_k"] (lSp (gK T) 2 (sp__law_house T)) := by
  refine ok_v (fun _ l b => T.F__law_house.okX sc__law_house l b) rfl (fun cdv A outer s H E F0 xq hr => ?_)
  refine ⟨_, (vss_one (vs_ret (ve_op ov_mod (ve_op ov_fdiv (ve_op ov_add (ve_ix (iv_tup rfl) (vpv 0) ve_int (fun _ _ => rfl)) (ve_op ov_mul (ve_ix (iv_tup rfl) (vpv 0) ve_int (fun _ _ => rfl)) (vpv 1))) (ve_ix (iv_tup rfl) (vpv 0) ve_int (fun _ _ => rfl))) (ve_ix (iv_tup rfl) (vpv 0) ve_int (fun _ _ => rfl))))), fun ts n Q hl h => ?_⟩
  match ts, h with
  | [t, .int k], ⟨l, e, ok, kB, h⟩ =>
    subst e
    have h0 := ok.h0
    have R0 := ok.R0
    have c1 : CMulA l.2.2.1 k := cmula ok.rB kB (by decide)
    have c2 : CDivW (l.2.1 + l.2.2.1 * k) l.2.2.2 := cdivw R0 ok.RB (by decide)
    unfold l4T
    walk_at "w"
    exact h
theorem crs_nf {l : L4} (o : OkL4 l) : CrsOk l.1 (nR l.2.2.2 l.1) (nS l.2.2.2 l.1 l.2.1 l.2.2.1) (nr l.2.2.2 l.1 l.2.2.1) := by
  have h0 := o.h0
  have R0 := o.R0
  have p := nR_pos (H := l.1) R0
  have q : B 150 (nR l.2.2.2 l.1) := by
    unfold nR
    split
    · exact o.RB.mono (by decide)
    · exact B.lit (by decide)
  refine ⟨⟨h0, p, nS_nn R0 h0, nS_lt R0 h0, nr_nn R0 h0, nr_lt R0 h0, nr_one o.g, fun h2 => ?_, fun h1 => if_neg (by omega)⟩, o.hB.mono (by decide), q⟩
  have e1 : nR l.2.2.2 l.1 = l.2.2.2 := if_pos (by omega)
  unfold nr
  by_cases t : tnd l.2.2.2 l.1 l.2.2.1
  · rw [if_pos t, e1]
    have t2 := t.2
    rw [e1, h2] at t2
    rw [h2]
    have m0 : (0 : Int) < l.2.2.2 * 2 := by omega
    have e := Int.emod_add_mul_ediv l.2.2.1 (l.2.2.2 * 2)
    have u := Int.emod_lt_of_pos l.2.2.1 m0
    have : -l.2.2.1 % (l.2.2.2 * 2) = l.2.2.2 * 2 - l.2.2.1 % (l.2.2.2 * 2) := by
      rw [show -l.2.2.1 = (l.2.2.2 * 2 - l.2.2.1 % (l.2.2.2 * 2)) + l.2.2.2 * 2 * (-(l.2.2.1 / (l.2.2.2 * 2)) - 1) by rw [Int.mul_sub, Int.mul_neg]; omega, Int.add_mul_emod_self_left]
      exact Int.emod_eq_of_lt (by omega) (by omega)
    omega
  · rw [if_neg t, e1]
    have n : ¬ l.2.2.2 < l.2.2.1 % (nR l.2.2.2 l.1 * l.1) := fun z => t ⟨h2, z⟩
    rw [e1] at n
    omega
theorem ok__law_course (T : Tx w K mg) : FnOk PR w K mg base (L2.CX PR w) 7 T.f__law_course T.fd__law_course ["_law_line_here"] (lSp (gK T) 1 (sp__law_course T)) := by
  refine ok_v (fun _ l b => T.F__law_course.okX sc__law_course l b) rfl (fun cdv A outer s H E F0 xq hr => ?_)
  refine ⟨_, (vss_one (vs_ret (ve_make T.oc_Course T.M_Course (ok_Course___init__ T) (hr.mono (by decide)) (by rfl) T.gC_Course T.b_Course___init__ .nil (fun _ => .nil) hx_of (va_cons (ve_ix (iv_tup rfl) (vpv 0) ve_int (fun _ _ => rfl)) (va_cons (ve_ix (iv_tup rfl) (vpv 0) ve_int (fun _ _ => rfl)) (va_cons (ve_ix (iv_tup rfl) (vpv 0) ve_int (fun _ _ => rfl)) (va_cons (ve_ix (iv_tup rfl) (vpv 0) ve_int (fun _ _ => rfl)) va_nil))))))), fun ts n Q hl h => ?_⟩
  match ts, h with
  | [t], ⟨l, e, ok, h⟩ =>
    subst e
    unfold l4T
    walk_at "w"
    exact ⟨ok.h0, ok.R0, ok.hB.mono (by decide), ok.RB.mono (by decide), ok.g, h⟩
theorem gcd_abs (x r : Int) : Int.gcd x (if r < 0 then -r else r) = Int.gcd r x := by
  split
  · rw [Int.gcd_neg, Int.gcd_comm]
  · rw [Int.gcd_comm]
theorem abs_nn (r : Int) : 0 ≤ (if r < 0 then -r else r) := by split <;> omega
theorem line_ok {H0 s r R : Int} (h0 : 0 < H0) (hB : B 60 H0) (R0 : 0 < R) (RB : B 97 R) (rB : B 97 r) (sB : B 8 s) : OkL4 (H0, s, r / (Int.gcd r R : Nat), R / (Int.gcd r R : Nat)) ∧ B 97 (r / (Int.gcd r R : Nat)) ∧ B 97 (R / (Int.gcd r R : Nat)) := by
  have g0 : (0 : Int) < (Int.gcd r R : Nat) := by
    have : Int.gcd r R ≠ 0 := fun z => by have := (Int.gcd_eq_zero_iff.mp z).2; omega
    omega
  have gd : ((Int.gcd r R : Nat) : Int) ∣ R := Int.gcd_dvd_right ..
  have b1 : B 97 (R / (Int.gcd r R : Nat)) := RB.div
  have b2 : B 97 (r / (Int.gcd r R : Nat)) := rB.div
  exact ⟨⟨h0, Int.ediv_pos_of_pos_of_dvd R0 (by omega) gd, hB, b1.mono (by decide), sB.mono (by decide), b2.mono (by decide), Int.gcd_ediv_gcd_ediv_gcd (by omega)⟩, b2, b1⟩
theorem ok__law_sent (T : Tx w K mg) : FnOk PR w K mg base (L2.CX PR w) 2 T.f__law_sent T.fd__law_sent ["_law_one", "_law_other", "_law_k"] (lSp (gK T) 3 (sp__law_sent T)) := by
  refine ok_v (fun _ l b => T.F__law_sent.okX sc__law_sent l b) rfl (fun cdv A outer s H E F0 xq hr => ?_)
  refine ⟨_, (vss_one (vs_ret (ve_cmp ov_neS (ve_call (ok__law_house T) (hr.mono (by decide)) (by rfl) T.g__law_house T.F__law_house.kp T.b__law_house .nil (fun _ => .nil) hx_of (va_cons (vpv 0) (va_cons (vpv 2) va_nil))) (ve_call (ok__law_house T) (hr.mono (by decide)) (by rfl) T.g__law_house T.F__law_house.kp T.b__law_house .nil (fun _ => .nil) hx_of (va_cons (vpv 1) (va_cons (vpv 2) va_nil))) (nomark _)))), fun ts n Q hl h => ?_⟩
  match ts, h with
  | [t, u, .int k], ⟨l, m, e1, e2, ol, om, kB, h⟩ =>
    subst e1
    subst e2
    walk_at "w"
    refine ⟨l, rfl, ol, kB, ?_⟩
    walk_at "w"
    refine ⟨m, rfl, om, kB, ?_⟩
    walk_at "w"
    exact h
theorem ok__law_line (T : Tx w K mg) : FnOk PR w K mg base (L2.CX PR w) 3 T.f__law_line T.fd__law_line ["_law_pen_here", "_law_houses", "_law_far"] (lSp (gK T) 3 (sp__law_line T)) := by
  refine ok_v (fun _ l b => T.F__law_line.okX sc__law_line l b) rfl (fun cdv A outer s H E F0 xq hr => ?_)
  refine ⟨_, (vss_cons (vs_set (i := 3) sc__law_line.nd rfl (Or.inl rfl) (ve_op ov_add ve_int (ve_ifExp (vt_val (vpv 2)) (ve_call (ok__law_great T) (hr.mono (by decide)) (by rfl) T.g__law_great T.F__law_great.kp T.b__law_great .nil (fun _ => .nil) hx_of (va_cons (vpv 0) (va_cons ve_int va_nil))) (ve_call (ok__law_draw T) (hr.mono (by decide)) (by rfl) T.g__law_draw T.F__law_draw.kp T.b__law_draw .nil (fun _ => .nil) hx_of (va_cons (vpv 0) (va_cons ve_int va_nil))))))
      (vss_cons (vs_set (i := 4) sc__law_line.nd rfl (Or.inl rfl) (ve_ifExp (PW.pt (vw_and (vt_val (vpv 2)) (vw_and1 (vt_cmp ov_eqS (ve_call (ok__law_draw T) (hr.mono (by decide)) (by rfl) T.g__law_draw T.F__law_draw.kp T.b__law_draw .nil (fun _ => .nil) hx_of (va_cons (vpv 0) (va_cons ve_int va_nil))) ve_int (nomark _))))) (ve_call (ok__law_great T) (hr.mono (by decide)) (by rfl) T.g__law_great T.F__law_great.kp T.b__law_great .nil (fun _ => .nil) hx_of (va_cons (vpv 0) (va_cons ve_int va_nil))) (ve_op ov_sub (ve_call (ok__law_draw T) (hr.mono (by decide)) (by rfl) T.g__law_draw T.F__law_draw.kp T.b__law_draw .nil (fun _ => .nil) hx_of (va_cons (vpv 0) (va_cons ve_int va_nil))) ve_int)))
      (vss_cons (vs_set (i := 5) sc__law_line.nd rfl (Or.inl rfl) (ve_call (ok__law_factor T) (hr.mono (by decide)) (by rfl) T.g__law_factor T.F__law_factor.kp T.b__law_factor .nil (fun _ => .nil) hx_of (va_cons (vpv 3) (va_cons (ve_callB cv_abs (by rfl) T.z_abs (by decide +kernel) (va_cons (vpv 4) va_nil)) va_nil))))
      (vss_one (vs_ret (ve_tup (va_cons (vpv 1) (va_cons (ve_op ov_sub (ve_call (ok__law_draw T) (hr.mono (by decide)) (by rfl) T.g__law_draw T.F__law_draw.kp T.b__law_draw .nil (fun _ => .nil) hx_of (va_cons (vpv 0) (va_cons ve_int va_nil))) ve_int) (va_cons (ve_op ov_fdiv (vpv 4) (vpv 5)) (va_cons (ve_op ov_fdiv (vpv 3) (vpv 5)) va_nil)))))))))), fun ts n Q hl h => ?_⟩
  match ts, h with
  | [.pen, .int H0, .bl far], ⟨h0, hB, hn, h⟩ =>
    walk_at "w"
    refine brE_jnb (fun t n' => ∃ d, t = .int d ∧ 0 ≤ d ∧ B 96 d ∧ n' ≤ n + 6) (fun R hR => brE_b (fun c => ?_) (fun c => ?_)) ?_
    · walk_at "w"
      intro d n1 d0 dB hn1
      exact hR _ _ ⟨d, rfl, d0, dB.mono (by decide), hn1⟩
    · walk_at "w"
      intro d d0 d1
      exact hR _ _ ⟨d, rfl, d0, B.small (by omega) (by omega), by omega⟩
    · rintro t n1 ⟨d, rfl, d0, dB, hn1⟩
      have R0 : 0 < 1 + d := by omega
      have RB : B 97 (1 + d) := ((B.lit (a := 1) (k := 2)).add dB).mono (by decide)
      walk_at "w"
      refine brT_jn (fun _ n' => n' ≤ n1 + 1) (fun R hR => brT_b (fun c => ?_) (fun c => ?_)) ?_
      · walk_at "w"
        intro e e0 e1
        exact hR _ _ (by omega)
      · walk_at "w"
        exact hR _ _ (by omega)
      · intro b n2 hn2
        refine brE_jnb (fun t n' => ∃ d, t = .int d ∧ B 97 d ∧ n' ≤ n2 + 6) (fun R hR => brE_b (fun c => ?_) (fun c => ?_)) ?_
        · walk_at "w"
          intro d n1 d0 dB hn1
          exact hR _ _ ⟨d, rfl, dB.mono (by decide), hn1⟩
        · walk_at "w"
          intro d d0 d1
          exact hR _ _ ⟨d - 6, rfl, (B.small (k := 30) (by omega) (by omega)).mono (by decide), by omega⟩
        · rintro t n3 ⟨r, rfl, rB, hn3⟩
          have g := gcd_abs (1 + d) r
          have a0 := abs_nn r
          have gp : (0 : Int) < (Int.gcd r (1 + d) : Nat) := by
            have : Int.gcd r (1 + d) ≠ 0 := fun z => by have := (Int.gcd_eq_zero_iff.mp z).2; omega
            omega
          have gB := B.gcd (a := r) RB R0
          walk_at "w"
          rw [g]
          have x0 : 0 ≤ 1 + d := by omega
          walk_at "w"
          intro s s0 s1
          have c1 : CDivW r (Int.gcd r (1 + d) : Nat) := cdivw gp gB (by decide)
          have c2 : CDivW (1 + d) (Int.gcd r (1 + d) : Nat) := cdivw gp gB (by decide)
          have sB : B 8 (s - 20) := by
            show (s - 20).natAbs < 2 ^ 8
            omega
          obtain ⟨o, o1, o2⟩ := line_ok (s := s - 20) h0 hB R0 RB rB sB
          walk_at "w"
          exact h _ _ o rfl sB (o1.mono (by decide)) (o2.mono (by decide)) (by omega)
theorem gcd_more (r R j : Int) : Int.gcd (r + R * j) R = Int.gcd r R := Int.gcd_add_mul_left_left ..
theorem OkL4.of {H0 s0 r0 R s r : Int} (o : OkL4 (H0, s0, r0, R)) (sB : B 250 s) (rB : B 250 r) (g : Int.gcd r R = 1) : OkL4 (H0, s, r, R) := ⟨o.h0, o.R0, o.hB, o.RB, sB, rB, g⟩
theorem ok__law_lines (T : Tx w K mg) : FnOk PR w K mg base (L2.CX PR w) 4 T.f__law_lines T.fd__law_lines ["_law_pen_here", "_law_far"] (lSp (gK T) 2 (sp__law_lines T)) := by
  refine ok_v (fun _ l b => T.F__law_lines.okX sc__law_lines l b) rfl (fun cdv A outer s H E F0 xq hr => ?_)
  refine ⟨_, (vss_cons (vs_par2 (i := 2) (j := 3) (ps_par (i := 2) (j := 3) rfl sc__law_lines.nd rfl rfl (by decide) rfl rfl (va_cons (ve_op ov_add ve_int (ve_call (ok__law_draw T) (hr.mono (by decide)) (by rfl) T.g__law_draw T.F__law_draw.kp T.b__law_draw .nil (fun _ => .nil) hx_of (va_cons (vpv 0) (va_cons ve_int va_nil)))) (va_cons (ve_call (ok__law_draw T) (hr.mono (by decide)) (by rfl) T.g__law_draw T.F__law_draw.kp T.b__law_draw .nil (fun _ => .nil) hx_of (va_cons (vpv 0) (va_cons ve_int va_nil))) va_nil)) rfl))
      (vss_cons (vs_if (PW.pt (vw_and (vt_val (vpv 1)) (vw_and1 (vt_cmp ov_eqS (ve_call (ok__law_draw T) (hr.mono (by decide)) (by rfl) T.g__law_draw T.F__law_draw.kp T.b__law_draw .nil (fun _ => .nil) hx_of (va_cons (vpv 0) (va_cons ve_int va_nil))) ve_int (nomark _))))) (vss_one (vs_set (i := 2) sc__law_lines.nd rfl (Or.inl rfl) (ve_op ov_add ve_int (ve_call (ok__law_great T) (hr.mono (by decide)) (by rfl) T.g__law_great T.F__law_great.kp T.b__law_great .nil (fun _ => .nil) hx_of (va_cons (vpv 0) (va_cons ve_int va_nil)))))) vss_nil)
      (vss_cons (vs_set (i := 4) sc__law_lines.nd rfl (Or.inl rfl) (ve_call (ok__law_line T) (hr.mono (by decide)) (by rfl) T.g__law_line T.F__law_line.kp T.b__law_line .nil (fun _ => .nil) hx_of (va_cons (vpv 0) (va_cons (vpv 2) (va_cons (vpv 1) va_nil)))))
      (vss_cons (vs_set (i := 5) sc__law_lines.nd rfl (Or.inl rfl) (ve_op ov_mul (ve_ix (iv_tup rfl) (vpv 4) ve_int (fun _ _ => rfl)) (vpv 2)))
      (vss_cons (vs_set (i := 6) sc__law_lines.nd rfl (Or.inl rfl) (ve_op ov_add (ve_ix (iv_tup rfl) (vpv 4) ve_int (fun _ _ => rfl)) (ve_call (ok__law_pick T) (hr.mono (by decide)) (by rfl) T.g__law_pick T.F__law_pick.kp T.b__law_pick .nil (fun _ => .nil) hx_of (va_cons (vpv 0) (va_cons (ve_lst (va_cons ve_int (va_cons ve_int (va_cons ve_int (va_cons (ve_ix (iv_tup rfl) (vpv 4) ve_int (fun _ _ => rfl)) (va_cons (ve_op ov_add (ve_ix (iv_tup rfl) (vpv 4) ve_int (fun _ _ => rfl)) ve_int) (va_cons (ve_un VL.un_neg ve_int) (va_cons (ve_un VL.un_neg (ve_ix (iv_tup rfl) (vpv 4) ve_int (fun _ _ => rfl))) (va_cons (ve_op ov_fdiv (vpv 5) ve_int) (va_cons (ve_call (ok__law_draw T) (hr.mono (by decide)) (by rfl) T.g__law_draw T.F__law_draw.kp T.b__law_draw .nil (fun _ => .nil) hx_of (va_cons (vpv 0) (va_cons (vpv 5) va_nil))) va_nil)))))))))) va_nil)))))
      (vss_cons (vs_if (vt_cmp ov_lt (vpv 3) ve_int (nomark _)) (vss_one (vs_ret (ve_tup (va_cons (vpv 4) (va_cons (ve_tup (va_cons (vpv 2) (va_cons (vpv 6) (va_cons (ve_op ov_add (ve_ix (iv_tup rfl) (vpv 4) ve_int (fun _ _ => rfl)) (ve_op ov_mul (vpv 5) (ve_op ov_sub (ve_call (ok__law_draw T) (hr.mono (by decide)) (by rfl) T.g__law_draw T.F__law_draw.kp T.b__law_draw .nil (fun _ => .nil) hx_of (va_cons (vpv 0) (va_cons ve_int va_nil))) ve_int))) (va_cons (ve_ix (iv_tup rfl) (vpv 4) ve_int (fun _ _ => rfl)) va_nil))))) va_nil))))) vss_nil)
      (vss_cons (vs_if (vt_cmp ov_eqS (vpv 3) ve_int (nomark _)) (vss_one (vs_ret (ve_tup (va_cons (vpv 4) (va_cons (ve_tup (va_cons (vpv 2) (va_cons (vpv 6) (va_cons (ve_un VL.un_neg (ve_ix (iv_tup rfl) (vpv 4) ve_int (fun _ _ => rfl))) (va_cons (ve_ix (iv_tup rfl) (vpv 4) ve_int (fun _ _ => rfl)) va_nil))))) va_nil))))) vss_nil)
      (vss_cons (vs_set (i := 7) sc__law_lines.nd rfl (Or.inl rfl) (ve_tup (va_cons (vpv 2) (va_cons (ve_op ov_sub (ve_call (ok__law_draw T) (hr.mono (by decide)) (by rfl) T.g__law_draw T.F__law_draw.kp T.b__law_draw .nil (fun _ => .nil) hx_of (va_cons (vpv 0) (va_cons ve_int va_nil))) ve_int) (va_cons (ve_op ov_mul (vpv 2) (ve_op ov_sub (ve_call (ok__law_draw T) (hr.mono (by decide)) (by rfl) T.g__law_draw T.F__law_draw.kp T.b__law_draw .nil (fun _ => .nil) hx_of (va_cons (vpv 0) (va_cons ve_int va_nil))) ve_int)) (va_cons ve_int va_nil))))))
      (vss_one (vs_ret (ve_ifExp (vt_cmp ov_eqS (ve_call (ok__law_draw T) (hr.mono (by decide)) (by rfl) T.g__law_draw T.F__law_draw.kp T.b__law_draw .nil (fun _ => .nil) hx_of (va_cons (vpv 0) (va_cons ve_int va_nil))) ve_int (nomark _)) (ve_tup (va_cons (vpv 4) (va_cons (vpv 7) va_nil))) (ve_tup (va_cons (vpv 7) (va_cons (vpv 4) va_nil)))))))))))))), fun ts n Q hl h => ?_⟩
  match ts, h with
  | [.pen, .bl far], ⟨hn, h⟩ =>
    walk_at "w"
    intro e e0 e1
    walk_at "w"
    intro d d0 d1
    walk_at "w"
    refine brT_jn (fun _ n' => n' ≤ n + 4) (fun R hR => brT_b (fun c => ?_) (fun c => ?_)) ?_
    · walk_at "w"
      intro g g0 g1
      exact hR _ _ (by omega)
    · walk_at "w"
      exact hR _ _ (by omega)
    · intro b n2 hn2
      refine brS_jn (fun n' ρ => ∃ H0, n' ≤ n + 10 ∧ 0 < H0 ∧ B 60 H0 ∧ ρ = [.v .pen, .v (.bl far), .v (.int H0), .v (.int d), .un, .un, .un, .un]) (fun K hK => brS_b (fun _ => ?_) (fun _ => ?_)) ?_
      · walk_at "w"
        intro g n3 g0 gB hn3
        exact hK _ _ ⟨2 + g, by omega, by omega, ((B.lit (a := 2) (k := 2)).add gB).mono (by decide), rfl⟩
      · walk_at "w"
        exact hK _ _ ⟨1 + e, by omega, by omega, B.small (by omega) (by omega), rfl⟩
      · rintro n3 ρ ⟨H0, hn3, h0, hB, rfl⟩
        walk_at "w"
        rintro ⟨H1, s, r, R⟩ n4 o hH s8 r100 R100 hn4
        obtain rfl : H1 = H0 := hH
        have s8 : B 8 s := s8
        have r100 : B 100 r := r100
        have R100 : B 100 R := R100
        have R0 : 0 < R := o.R0
        have og : Int.gcd r R = 1 := o.g
        have c1 : CMulA R H1 := cmula R100 hB (by decide)
        have M0 := Int.mul_pos R0 h0
        have mB : B 160 (R * H1) := (R100.mul hB).mono (by decide)
        have m2 : R * H1 < 2 ^ 200 := B.lt200 (mB.mono (by decide))
        rw [show l4T (H1, s, r, R) = .tup [.int H1, .int s, .int r, .int R] from rfl]
        walk_at "w"
        intro q q0 q1
        walk_at "w"
        intro t ht
        obtain ⟨m, rfl, m1⟩ : ∃ m : Int, t = .int m ∧ B 170 m := by
          simp only [List.mem_cons, List.not_mem_nil, or_false] at ht
          have one : B 1 (1 : Int) := B.lit
          rcases ht with rfl | rfl | rfl | rfl | rfl | rfl | rfl | rfl | rfl
          · exact ⟨_, rfl, B.lit⟩
          · exact ⟨_, rfl, B.lit⟩
          · exact ⟨_, rfl, B.lit⟩
          · exact ⟨_, rfl, R100.mono (by decide)⟩
          · exact ⟨_, rfl, (R100.add one).mono (by decide)⟩
          · exact ⟨_, rfl, B.lit⟩
          · exact ⟨_, rfl, R100.neg.mono (by decide)⟩
          · exact ⟨_, rfl, mB.div.mono (by decide)⟩
          · exact ⟨_, rfl, (mB.le q0 (Int.le_of_lt q1)).mono (by decide)⟩
        walk_at "w"
        refine brS_d (fun q => ?_) (fun q => ?_)
        · walk_at "w"
          intro u u0 u1
          have uB : B 30 (u - 1) := B.small (by omega) (by omega)
          have c3 : CMulA (R * H1) (u - 1) := cmula mB uB (by decide)
          walk_at "w"
          exact h (H1, s, r, R) (H1, s + m, r + R * H1 * (u - 1), R) _ ⟨o, o.of ((s8.add m1).mono (by decide)) ((r100.add (mB.mul uB)).mono (by decide)) (by rw [Int.mul_assoc, gcd_more, og]), rfl, cnt_same R0 h0⟩ (by omega)
        · walk_at "w"
          refine brS_d (fun q => ?_) (fun q => ?_)
          · walk_at "w"
            exact h (H1, s, r, R) (H1, s + m, -r, R) _ ⟨o, o.of ((s8.add m1).mono (by decide)) (r100.neg.mono (by decide)) (by rw [Int.neg_gcd, og]), rfl, cnt_neg R0 h0⟩ (by omega)
          · walk_at "w"
            intro u u0 u1
            walk_at "w"
            intro v v0 v1
            have vB : B 30 (v - 1) := B.small (by omega) (by omega)
            have c3 : CMulA H1 (v - 1) := cmula hB vB (by decide)
            have os : OkL4 (H1, u - 25, H1 * (v - 1), 1) := ⟨o.h0, (by decide : (0 : Int) < 1), hB, (B.lit (a := 1) (k := 110)), (B.small (k := 30) (a := u - 25) (by omega) (by omega)).mono (by decide), (hB.mul vB).mono (by decide), Int.gcd_one_right ..⟩
            walk_at "w"
            intro g g0 g1
            refine brE_d (fun q => ?_) (fun q => ?_)
            · walk_at "w"
              exact h (H1, s, r, R) (H1, u - 25, H1 * (v - 1), 1) _ ⟨o, os, rfl, .inr (.inr (.inr nr_still))⟩ (by omega)
            · walk_at "w"
              exact h (H1, u - 25, H1 * (v - 1), 1) (H1, s, r, R) _ ⟨os, o, rfl, .inr (.inr (.inl nr_still))⟩ (by omega)
end
open PySem L2 DS VL NdefX MT
set_option pp.maxSteps 2000

section
variable {P : Program} {w : World} {K : PySem.W.Frag} {mg : Str → Option Value} {base : Heap}
theorem two_ok {l m : L4} (o : OkLL l m) : OkTwo (two l m) := by
  refine ⟨crs_nf o.a, ?_⟩
  have e : m.1 = l.1 := o.e.symm
  have h := crs_nf o.b
  rw [e] at h
  exact h
theorem two_sb {l m : L4} (o : OkLL l m) (k : Int) : (two l m).sb k = !decide (hsL l k = hsL m k) := by
  have c1 : hsC l.1 (nR l.2.2.2 l.1) (nS l.2.2.2 l.1 l.2.1 l.2.2.1) (nr l.2.2.2 l.1 l.2.2.1) k = hsL l k := norm_house o.a.R0 o.a.h0 k
  have c2 : hsC l.1 (nR m.2.2.2 l.1) (nS m.2.2.2 l.1 m.2.1 m.2.2.1) (nr m.2.2.2 l.1 m.2.2.1) k = hsL m k := by
    rw [o.e]
    exact norm_house o.b.R0 o.b.h0 k
  show (!decide (hsC l.1 (nR l.2.2.2 l.1) (nS l.2.2.2 l.1 l.2.1 l.2.2.1) (nr l.2.2.2 l.1 l.2.2.1) k = hsC l.1 (nR m.2.2.2 l.1) (nS m.2.2.2 l.1 m.2.1 m.2.2.1) (nr m.2.2.2 l.1 m.2.2.1) k)) = _
  rw [c1, c2]
theorem sil_zero {p : Two} (h : p.Sil) (k : Int) : p.snt k = 0 := by
  obtain ⟨a, b, c⟩ := h
  have e : ∀ j, p.sb j = false := fun j => by
    show (!decide (hsC p.H p.R p.s p.r j = hsC p.H p.R' p.s' p.r' j)) = false
    rw [a, b, c, decide_eq_true rfl]
    rfl
  show cnB p.sb k = 0
  rw [cnB_congr (q := fun _ => false) (fun j _ _ => e j)]
  unfold cnB
  exact sm_zero _
theorem cnt_Q {T : Tx w K mg} {p : Two} {i : Int} {n : Nat} {x : XQ} {y : Int → Prop} (c : p.Cnt) (i0 : 0 ≤ i) (h : y i) : cntQ T p (.int i) n x y := by
  unfold cntQ
  rw [if_pos c]
  exact okQ_T (wh_T i0) ⟨i, rfl, i0, h⟩
theorem ok__law_near_right (T : Tx w K mg) : FnOk PR w K mg base (L2.CX PR w) 9 T.f__law_near_right T.fd__law_near_right ["_law_statement", "_law_one", "_law_other"] (lSp (gK T) 3 (sp__law_near_right T)) := by
  refine ok_v (fun _ l b => T.F__law_near_right.okX sc__law_near_right l b) rfl (fun cdv A outer s H E F0 xq hr => ?_)
  refine ⟨_, (vss_cons (vs_set (i := 3) sc__law_near_right.nd rfl (Or.inl rfl) ve_int)
      (vss_cons (vs_for (vs := [4]) own_of rfl (vi_range1 (by rfl) T.z_range (va_cons ve_int va_nil)) (vg_name (i := 4) (by decide) sc__law_near_right.nd rfl (Or.inl rfl))
      (vss_cons (vs_if (vt_cmp ov_neS (ve_meth (vpv 0) T.cl_Statement T.m_Statement_sent (ok_Statement_sent T) (hr.mono (by decide)) T.b_Statement_sent .nil (fun _ => .nil) hx_of (va_cons (vpv 4) va_nil)) (vpv 3) (nomark _)) (vss_one (vs_ret ve_bl)) vss_nil)
      (vss_one (vs_set (i := 3) sc__law_near_right.nd rfl (Or.inl rfl) (ve_op ov_add (vpv 3) (ve_callTy cv_int (by rfl) T.z_int (by decide +kernel) (va_cons (ve_call (ok__law_sent T) (hr.mono (by decide)) (by rfl) T.g__law_sent T.F__law_sent.kp T.b__law_sent .nil (fun _ => .nil) hx_of (va_cons (vpv 1) (va_cons (vpv 2) (va_cons (vpv 4) va_nil)))) va_nil)))))))
      (vss_one (vs_ret ve_bl)))), fun ts n Q hl h => ?_⟩
  match ts, h with
  | [t, u, v], ⟨l, m, e1, e2, e3, ok, h⟩ =>
    subst e1
    subst e2
    subst e3
    have ok2 := two_ok ok
    walk_at "v"
    refine ⟨⟨by decide, by decide⟩, ?_⟩
    refine for_inv (fun j n' ρ => n' = n ∧ ∃ s4, ρ = [.v (twoT T (two l m)), .v (l4T l), .v (l4T m), .v (.int (cnB (two l m).sb j)), s4]) ⟨rfl, _, rfl⟩ ?_ ?_
    · rintro j t n' ρ hj ⟨rfl, s4, rfl⟩ K' hK
      obtain ⟨rfl, hj⟩ := rngT_get hj
      have hj : j < 40 := by
        refine Nat.lt_of_not_le fun z => ?_
        rw [List.getElem?_eq_none (by rw [rngT_len]; exact z)] at hj
        cases hj
      rw [Int.zero_add]
      have jB : B 30 ((j : Nat) : Int) := B.small (by omega) (by omega)
      have j0 : (0 : Int) ≤ (j : Nat) := by omega
      walk_at "w"
      refine ⟨two l m, rfl, ok2, cnt_Q ok.c j0 ⟨jB.mono (by decide), ?_⟩⟩
      refine brS_n (fun z => absurd rfl z) (fun _ => ?_)
      walk_at "w"
      refine ⟨l, m, rfl, rfl, ok.a, ok.b, jB.mono (by decide), ?_⟩
      walk_at "w"
      refine hK _ _ ⟨rfl, .v (.int ((j : Nat) : Int)), ?_⟩
      have e := cnB_step (two l m).sb j0
      rw [two_sb ok] at e
      rw [show ((j + 1 : Nat) : Int) = (j : Int) + 1 by omega, e]
      rfl
    · rintro n' ρ ⟨rfl, s4, rfl⟩
      walk_at "w"
      exact h
theorem ok__law_call (T : Tx w K mg) : FnOk PR w K mg base (L2.CX PR w) 11 T.f__law_call T.fd__law_call ["_law_statement", "_law_which", "_law_k"] (lSp (gK T) 3 (sp__law_call T)) := by
  refine ok_v (fun _ l b => T.F__law_call.okX sc__law_call l b) rfl (fun cdv A outer s H E F0 xq hr => ?_)
  refine ⟨_, (vss_cons (vs_if (vt_cmp ov_eqS (vpv 1) ve_int (nomark _)) (vss_one (vs_ret (ve_meth (vpv 0) T.cl_Statement T.m_Statement_sent (ok_Statement_sent T) (hr.mono (by decide)) T.b_Statement_sent .nil (fun _ => .nil) hx_of (va_cons (vpv 2) va_nil)))) vss_nil)
      (vss_one (vs_ret (ve_ifExp (vt_cmp ov_eqS (vpv 1) ve_int (nomark _)) (ve_meth (vpv 0) T.cl_Statement T.m_Statement_sent_item (ok_Statement_sent_item T) (hr.mono (by decide)) T.b_Statement_sent_item .nil (fun _ => .nil) hx_of (va_cons (vpv 2) va_nil)) (ve_meth (vpv 0) T.cl_Statement T.m_Statement_next_sent (ok_Statement_next_sent T) (hr.mono (by decide)) T.b_Statement_next_sent .nil (fun _ => .nil) hx_of (va_cons (vpv 2) va_nil)))))), fun ts n Q hl h => ?_⟩
  match ts, h with
  | [t, .int i, u], ⟨p, e, ok, nc, h⟩ =>
    subst e
    have q : ∀ {y : Int → Prop}, cntQ T p u n xq y := by
      intro y
      unfold cntQ
      rw [if_neg nc]
      exact h
    walk_at "w"
    refine brS_d (fun _ => ?_) (fun _ => ?_)
    · walk_at "w"
      exact ⟨p, rfl, ok, q⟩
    · walk_at "w"
      refine brE_d (fun _ => ?_) (fun _ => ?_)
      · walk_at "w"
        exact ⟨p, rfl, ok, q⟩
      · walk_at "w"
        exact ⟨p, rfl, ok, q⟩
theorem ok__law_step_right (T : Tx w K mg) : FnOk PR w K mg base (L2.CX PR w) 11 T.f__law_step_right T.fd__law_step_right ["_law_pen_here", "_law_statement", "_law_one", "_law_other", "_law_k"] (lSp (gK T) 5 (sp__law_step_right T)) := by
  refine ok_v (fun _ l b => T.F__law_step_right.okX sc__law_step_right l b) rfl (fun cdv A outer s H E F0 xq hr => ?_)
  refine ⟨_, (vss_cons (vs_par2 (i := 5) (j := 6) (ps_par (i := 5) (j := 6) rfl sc__law_step_right.nd rfl rfl (by decide) rfl rfl (va_cons (ve_meth (vpv 1) T.cl_Statement T.m_Statement_sent (ok_Statement_sent T) (hr.mono (by decide)) T.b_Statement_sent .nil (fun _ => .nil) hx_of (va_cons (vpv 4) va_nil)) (va_cons (ve_meth (vpv 1) T.cl_Statement T.m_Statement_sent (ok_Statement_sent T) (hr.mono (by decide)) T.b_Statement_sent .nil (fun _ => .nil) hx_of (va_cons (ve_op ov_add (vpv 4) ve_int) va_nil)) va_nil)) rfl))
      (vss_cons (vs_if (vt_cmp ov_neS (ve_op ov_sub (vpv 6) (vpv 5)) (ve_callTy cv_int (by rfl) T.z_int (by decide +kernel) (va_cons (ve_call (ok__law_sent T) (hr.mono (by decide)) (by rfl) T.g__law_sent T.F__law_sent.kp T.b__law_sent .nil (fun _ => .nil) hx_of (va_cons (vpv 2) (va_cons (vpv 3) (va_cons (vpv 4) va_nil)))) va_nil)) (nomark _)) (vss_one (vs_ret ve_bl)) vss_nil)
      (vss_cons (vs_if (vt_val (ve_meth0 (vpv 1) T.cl_Statement T.m_Statement_is_silent (ok_Statement_is_silent T) (hr.mono (by decide)) T.b_Statement_is_silent .nil (fun _ => .nil) hx_of)) (vss_one (vs_ret (ve_cmp (ov_eqD rfl (hu64_of hr)) (ve_tup (va_cons (vpv 5) (va_cons (ve_meth (vpv 1) T.cl_Statement T.m_Statement_sent_item (ok_Statement_sent_item T) (hr.mono (by decide)) T.b_Statement_sent_item .nil (fun _ => .nil) hx_of (va_cons (vpv 5) va_nil)) (va_cons (ve_meth (vpv 1) T.cl_Statement T.m_Statement_next_sent (ok_Statement_next_sent T) (hr.mono (by decide)) T.b_Statement_next_sent .nil (fun _ => .nil) hx_of (va_cons (vpv 4) va_nil)) va_nil)))) (ve_tup (va_cons ve_int (va_cons ve_non (va_cons ve_non va_nil)))) (nomark _)))) vss_nil)
      (vss_cons (vs_set (i := 7) sc__law_step_right.nd rfl (Or.inl rfl) (ve_meth (vpv 1) T.cl_Statement T.m_Statement_next_sent (ok_Statement_next_sent T) (hr.mono (by decide)) T.b_Statement_next_sent .nil (fun _ => .nil) hx_of (va_cons (vpv 4) va_nil)))
      (vss_cons (vs_if (PW.pt (vw_or (vt_cmp ov_lt (vpv 7) (vpv 4) (nomark _)) (vw_or (vt_not (vt_val (ve_call (ok__law_sent T) (hr.mono (by decide)) (by rfl) T.g__law_sent T.F__law_sent.kp T.b__law_sent .nil (fun _ => .nil) hx_of (va_cons (vpv 2) (va_cons (vpv 3) (va_cons (vpv 7) va_nil)))))) (vw_or1 (vt_cmp ov_neS (ve_meth (vpv 1) T.cl_Statement T.m_Statement_sent (ok_Statement_sent T) (hr.mono (by decide)) T.b_Statement_sent .nil (fun _ => .nil) hx_of (va_cons (vpv 7) va_nil)) (vpv 5) (nomark _)))))) (vss_one (vs_ret ve_bl)) vss_nil)
      (vss_cons (vs_set (i := 8) sc__law_step_right.nd rfl (Or.inl rfl) (ve_call (ok__law_draw T) (hr.mono (by decide)) (by rfl) T.g__law_draw T.F__law_draw.kp T.b__law_draw .nil (fun _ => .nil) hx_of (va_cons (vpv 0) (va_cons (ve_op ov_add (vpv 5) ve_int) va_nil))))
      (vss_cons (vs_set (i := 9) sc__law_step_right.nd rfl (Or.inl rfl) (ve_meth (vpv 1) T.cl_Statement T.m_Statement_sent_item (ok_Statement_sent_item T) (hr.mono (by decide)) T.b_Statement_sent_item .nil (fun _ => .nil) hx_of (va_cons (vpv 8) va_nil)))
      (vss_cons (vs_if (PW.pt (vw_or (vt_cmp ov_lt (vpv 9) ve_int (nomark _)) (vw_or (vt_not (vt_val (ve_call (ok__law_sent T) (hr.mono (by decide)) (by rfl) T.g__law_sent T.F__law_sent.kp T.b__law_sent .nil (fun _ => .nil) hx_of (va_cons (vpv 2) (va_cons (vpv 3) (va_cons (vpv 9) va_nil)))))) (vw_or1 (vt_cmp ov_neS (ve_meth (vpv 1) T.cl_Statement T.m_Statement_sent (ok_Statement_sent T) (hr.mono (by decide)) T.b_Statement_sent .nil (fun _ => .nil) hx_of (va_cons (vpv 9) va_nil)) (vpv 8) (nomark _)))))) (vss_one (vs_ret ve_bl)) vss_nil)
      (vss_cons (vs_par2 (i := 10) (j := 11) (ps_par (i := 10) (j := 11) rfl sc__law_step_right.nd rfl rfl (by decide) rfl rfl (va_cons (ve_meth0 (vpv 1) T.cl_Statement T.m_Statement_turn (ok_Statement_turn T) (hr.mono (by decide)) T.b_Statement_turn .nil (fun _ => .nil) hx_of) (va_cons (ve_call (ok__law_great T) (hr.mono (by decide)) (by rfl) T.g__law_great T.F__law_great.kp T.b__law_great .nil (fun _ => .nil) hx_of (va_cons (vpv 0) (va_cons ve_int va_nil))) va_nil)) rfl))
      (vss_cons (vs_set (i := 12) sc__law_step_right.nd rfl (Or.inl rfl) (ve_op ov_mul (vpv 11) (ve_meth (vpv 1) T.cl_Statement T.m_Statement_sent (ok_Statement_sent T) (hr.mono (by decide)) T.b_Statement_sent .nil (fun _ => .nil) hx_of (va_cons (vpv 10) va_nil))))
      (vss_one (vs_ret (ve_cmp ov_eqS (ve_meth (vpv 1) T.cl_Statement T.m_Statement_sent (ok_Statement_sent T) (hr.mono (by decide)) T.b_Statement_sent .nil (fun _ => .nil) hx_of (va_cons (ve_op ov_add (vpv 4) (ve_op ov_mul (vpv 10) (vpv 11))) va_nil)) (ve_op ov_add (vpv 5) (vpv 12)) (nomark _)))))))))))))), fun ts n Q hl h => ?_⟩
  match ts, h with
  | [.pen, t, u, v, .int k], ⟨l, m, e1, e2, e3, ok, k0, kB, hn, h⟩ =>
    subst e1
    subst e2
    subst e3
    have ok2 := two_ok ok
    have kB1 : B 131 (k + 1) := (kB.add (B.lit (a := 1) (k := 2))).mono (by decide)
    walk_at "w"
    refine ⟨two l m, rfl, ok2, cnt_Q ok.c k0 ⟨kB.mono (by decide), ?_⟩⟩
    walk_at "w"
    refine ⟨two l m, rfl, ok2, cnt_Q ok.c (by omega) ⟨kB1.mono (by decide), ?_⟩⟩
    walk_at "w"
    refine ⟨l, m, rfl, rfl, ok.a, ok.b, kB.mono (by decide), ?_⟩
    have nn := fun i => cnB_nn (two l m).sb i
    have st : (two l m).snt (k + 1) - (two l m).snt k = if (!decide (hsL l k = hsL m k)) = true then 1 else 0 := by
      have e := cnB_step (two l m).sb k0
      rw [two_sb ok] at e
      show cnB (two l m).sb (k + 1) - cnB (two l m).sb k = _
      omega
    have SB : B 130 ((two l m).snt k) := kB.le (nn k).1 ((nn k).2 k0)
    have S0 : 0 ≤ (two l m).snt k := (nn k).1
    walk_at "w"
    refine brS_n (fun z => absurd st z) (fun _ => ?_)
    walk_at "w"
    refine ⟨_, _, _, _, _, _, _, _, rfl, ?_⟩
    refine brS_d (fun q => ?_) (fun q => ?_)
    · have sl : (two l m).Sil := q.2
      walk_at "w"
      refine ⟨two l m, rfl, ok2, cnt_Q ok.c S0 ⟨SB.mono (by decide), fun _ => ?_, fun z => absurd sl z⟩⟩
      walk_at "w"
      refine ⟨two l m, rfl, ok2, cnt_Q ok.c k0 ⟨kB.mono (by decide), fun _ => ?_, fun z => absurd sl z⟩⟩
      walk_at "w"
      rw [sil_zero sl k]
      have o3 : okD (.tup [.int 0, .non, .non]) := ⟨rfl, by decide +kernel⟩
      refine ⟨o3, o3, ?_⟩
      rw [eqT_refl o3]
      exact h _ (by omega)
    · have ns : ¬ (two l m).Sil := fun z => q ⟨rfl, z⟩
      walk_at "w"
      refine ⟨two l m, rfl, ok2, cnt_Q ok.c k0 ⟨kB.mono (by decide), fun z => absurd z ns, fun _ i hi _ iB => ?_⟩⟩
      have ge := IsItem.ge k0 hi
      have i0 := hi.i0
      walk_at "w"
      refine brT_d (fun z => absurd ge (by omega)) (fun _ => ?_)
      walk_at "w"
      refine ⟨l, m, rfl, rfl, ok.a, ok.b, iB, ?_⟩
      rw [← two_sb ok, hi.is]
      show brT false _ _ _ _ _
      walk_at "w"
      refine ⟨two l m, rfl, ok2, cnt_Q ok.c i0 ⟨iB.mono (by decide), ?_⟩⟩
      rw [show (two l m).snt i = (two l m).snt k from hi.e]
      refine brS_n (fun z => absurd rfl z) (fun _ => ?_)
      have s200 : (two l m).snt k + 1 < 2 ^ 200 := B.lt200 ((SB.add (B.lit (a := 1) (k := 2))).mono (by decide))
      have s1 : 0 < (two l m).snt k + 1 := by omega
      walk_at "w"
      intro d d0 d1
      have dB : B 130 d := SB.le d0 (by omega)
      walk_at "w"
      refine ⟨two l m, rfl, ok2, cnt_Q ok.c d0 ⟨dB.mono (by decide), fun z => absurd z ns, fun _ i2 hi2 _ iB2 => ?_⟩⟩
      have i20 := hi2.i0
      walk_at "w"
      refine brT_d (fun z => absurd z (by omega)) (fun _ => ?_)
      walk_at "w"
      refine ⟨l, m, rfl, rfl, ok.a, ok.b, iB2, ?_⟩
      rw [← two_sb ok, hi2.is]
      show brT false _ _ _ _ _
      walk_at "w"
      refine ⟨two l m, rfl, ok2, cnt_Q ok.c i20 ⟨iB2.mono (by decide), ?_⟩⟩
      rw [show (two l m).snt i2 = d from hi2.e]
      refine brS_n (fun z => absurd rfl z) (fun _ => ?_)
      obtain ⟨T0, TB⟩ := jt_bs ok2
      walk_at "w"
      refine ⟨two l m, rfl, ok2, ?_⟩
      walk_at "w"
      intro g n2 g0 gB hn2
      have gB : B 48 g := gB
      have T1 : 0 ≤ (two l m).T := Int.le_of_lt T0
      have ST : B 450 ((two l m).snt (two l m).T) := TB.le (nn _).1 ((nn _).2 T1)
      have c1 : CMulA g ((two l m).snt (two l m).T) := cmula gB ST (by decide)
      have c2 : CMulA (two l m).T g := cmula TB gB (by decide)
      have tg := Int.mul_nonneg T1 g0
      walk_at "w"
      refine ⟨two l m, rfl, ok2, cnt_Q ok.c T1 ⟨TB.mono (by decide), ?_⟩⟩
      walk_at "w"
      refine ⟨two l m, rfl, ok2, cnt_Q ok.c (show 0 ≤ k + (two l m).T * g by omega) ⟨((kB.add (TB.mul gB)).mono (by decide)), ?_⟩⟩
      walk_at "w"
      obtain ⟨j, rfl⟩ := Int.eq_ofNat_of_zero_le g0
      have e : (two l m).snt (k + (two l m).T * (j : Int)) = (two l m).snt k + (j : Int) * (two l m).snt (two l m).T := cnB_turn T1 (snt_per ok2) j k0
      rw [e, decide_eq_true rfl]
      exact h _ (by omega)
end
open PySem L2 DS VL NdefX MT
set_option pp.maxSteps 2000

section
variable {P : Program} {w : World} {K : PySem.W.Frag} {mg : Str → Option Value} {base : Heap}
theorem odd_ok {t : Tr} (h : t ∈ [.non, .int (-1), .bl true, .str "1", .tup [.int 2]]) : isWhT t = some false ∧ okD (.tup [.str "value", t]) := by
  simp only [List.mem_cons, List.not_mem_nil, or_false] at h
  rcases h with rfl | rfl | rfl | rfl | rfl <;> exact ⟨rfl, rfl, by decide +kernel⟩
theorem nR_big {H R : Int} (h : 3 ≤ H) : nR R H = R := if_pos (by omega)
theorem nr_big {H R r : Int} (h : 3 ≤ H) : nr R H r = r % (R * H) := by
  rw [nr_mod, if_neg (fun w => by have := w.1; omega), nR_big h]
theorem nc_of {H R d : Int} (h : 3 ≤ H) (hR : 2 ≤ R) {m : L4} (hm : m = (H, 0, 1, R + 1) ∨ m = (H, 1, R + 1, R) ∨ m = (H, 0, -1, R + 1)) : ¬ (two (H, d, 1, R) m).Cnt := by
  have b1 : R * 3 ≤ R * H := Int.mul_le_mul_of_nonneg_left h (by omega)
  have b2 : (R + 1) * 3 ≤ (R + 1) * H := Int.mul_le_mul_of_nonneg_left h (by omega)
  unfold two Two.Cnt Cntd
  dsimp only
  rw [nr_big h, nr_big h, nR_big h, nR_big h]
  rw [Int.emod_eq_of_lt (show (0 : Int) ≤ 1 by decide) (show 1 < R * H by omega)]
  rcases hm with rfl | rfl | rfl
  · dsimp only
    rw [Int.emod_eq_of_lt (show (0 : Int) ≤ 1 by decide) (show 1 < (R + 1) * H by omega)]
    omega
  · dsimp only
    rw [Int.emod_eq_of_lt (show 0 ≤ R + 1 by omega) (show R + 1 < R * H by omega)]
    rintro (c | c | c | c)
    · omega
    · rw [Int.emod_eq_of_lt (show 0 ≤ 1 + (R + 1) by omega) (show 1 + (R + 1) < R * H by omega)] at c
      omega
    · omega
    · omega
  · dsimp only
    have : -1 % ((R + 1) * H) = (R + 1) * H - 1 := by
      rw [show -1 = ((R + 1) * H - 1) + (R + 1) * H * (-1) by omega, Int.add_mul_emod_self_left]
      exact Int.emod_eq_of_lt (by omega) (by omega)
    rw [this]
    omega
theorem crs_at {T : Tx w K mg} {H R s r : Int} {y : Int → Prop} {z : Prop} (h : y H) : crsQ T (crsT T H R s r) y z := .inl ⟨H, _, _, _, rfl, h⟩
theorem ok__law_refused_right (T : Tx w K mg) (TB : LamX.TabB base mg T.c__law_refused_right T.P__law_refused_right) : FnOk PR w K mg base (L2.CX PR w) 14 T.f__law_refused_right T.fd__law_refused_right ["_law_pen_here"] (lSp (gK T) 1 (sp__law_refused_right T)) := by
  obtain ⟨oc, od, kV, doc, pm, an, ct, osl, e, lk, hcd⟩ := T.FC__law_refused_right
  refine ok_vC e lk hcd sc__law_refused_right rfl (fun A outer s H E F0 xq hr => ?_)
  refine ⟨_, (vss_cons (vs_par2 (i := 1) (j := 2) (ps_par (i := 1) (j := 2) rfl sc__law_refused_right.nd rfl rfl (by decide) rfl rfl (va_cons (ve_op ov_add ve_int (ve_call (ok__law_draw T) (hr.mono (by decide)) (by rfl) T.g__law_draw T.F__law_draw.kp T.b__law_draw .nil (fun _ => .nil) hx_of (va_cons (vpv 0) (va_cons ve_int va_nil)))) (va_cons (ve_op ov_add ve_int (ve_call (ok__law_draw T) (hr.mono (by decide)) (by rfl) T.g__law_draw T.F__law_draw.kp T.b__law_draw .nil (fun _ => .nil) hx_of (va_cons (vpv 0) (va_cons ve_int va_nil)))) va_nil)) rfl))
      (vss_cons (vs_set (i := 3) sc__law_refused_right.nd rfl (Or.inl rfl) (ve_make T.oc_Course T.M_Course (ok_Course___init__ T) (hr.mono (by decide)) (by rfl) T.gC_Course T.b_Course___init__ .nil (fun _ => .nil) hx_of (va_cons (vpv 1) (va_cons (ve_call (ok__law_draw T) (hr.mono (by decide)) (by rfl) T.g__law_draw T.F__law_draw.kp T.b__law_draw .nil (fun _ => .nil) hx_of (va_cons (vpv 0) (va_cons ve_int va_nil))) (va_cons ve_int (va_cons (vpv 2) va_nil))))))
      (vss_cons (vs_set (i := 4) sc__law_refused_right.nd rfl (Or.inl rfl) (ve_call (ok__law_draw T) (hr.mono (by decide)) (by rfl) T.g__law_draw T.F__law_draw.kp T.b__law_draw .nil (fun _ => .nil) hx_of (va_cons (vpv 0) (va_cons ve_int va_nil))))
      (vss_cons (vs_set (i := 5) sc__law_refused_right.nd rfl (Or.inl rfl) (ve_ix iv_list (ve_lst (va_cons (ve_make T.oc_Course T.M_Course (ok_Course___init__ T) (hr.mono (by decide)) (by rfl) T.gC_Course T.b_Course___init__ .nil (fun _ => .nil) hx_of (va_cons (vpv 1) (va_cons ve_int (va_cons ve_int (va_cons (ve_op ov_add (vpv 2) ve_int) va_nil))))) (va_cons (ve_make T.oc_Course T.M_Course (ok_Course___init__ T) (hr.mono (by decide)) (by rfl) T.gC_Course T.b_Course___init__ .nil (fun _ => .nil) hx_of (va_cons (vpv 1) (va_cons ve_int (va_cons (ve_op ov_add (vpv 2) ve_int) (va_cons (vpv 2) va_nil))))) (va_cons (ve_make T.oc_Course T.M_Course (ok_Course___init__ T) (hr.mono (by decide)) (by rfl) T.gC_Course T.b_Course___init__ .nil (fun _ => .nil) hx_of (va_cons (vpv 1) (va_cons ve_int (va_cons (ve_un VL.un_neg ve_int) (va_cons (ve_op ov_add (vpv 2) ve_int) va_nil))))) va_nil)))) (vpv 4) (fun _ _ => rfl)))
      (vss_cons (vs_set (i := 7) sc__law_refused_right.nd rfl (Or.inr rfl) (ve_make T.oc_Statement T.M_Statement (ok_Statement___init__ T) (hr.mono (by decide)) (by rfl) T.gC_Statement T.b_Statement___init__ .nil (fun _ => .nil) hx_of (va_cons (vpv 3) (va_cons (vpv 5) va_nil))))
      (vss_cons (vs_if (PW.pt (vw_or (vt_cmp ov_notB (ve_meth0 (vpv 7) T.cl_Statement T.m_Statement_is_counted (ok_Statement_is_counted T) (hr.mono (by decide)) T.b_Statement_is_counted .nil (fun _ => .nil) hx_of) ve_bl (nomark _)) (vw_or1 (vt_cmp ov_notB (ve_meth0 (vpv 7) T.cl_Statement T.m_Statement_is_parallel (ok_Statement_is_parallel T) (hr.mono (by decide)) T.b_Statement_is_parallel .nil (fun _ => .nil) hx_of) ve_bl (nomark _))))) (vss_one (vs_ret ve_bl)) vss_nil)
      (vss_cons (vs_asg (vs := [6, 8]) (ve_tup (va_cons (ve_call (ok__law_draw T) (hr.mono (by decide)) (by rfl) T.g__law_draw T.F__law_draw.kp T.b__law_draw .nil (fun _ => .nil) hx_of (va_cons (vpv 0) (va_cons ve_int va_nil))) (va_cons (ve_call (ok__law_pick T) (hr.mono (by decide)) (by rfl) T.g__law_pick T.F__law_pick.kp T.b__law_pick .nil (fun _ => .nil) hx_of (va_cons (vpv 0) (va_cons (ve_lst (va_cons ve_non (va_cons (ve_un VL.un_neg ve_int) (va_cons ve_bl (va_cons ve_str (va_cons (ve_tup (va_cons ve_int va_nil)) va_nil)))))) va_nil))) va_nil))) (vg_tup (m := 2) rfl rfl (vgs_cons (vg_name (i := 6) (by decide) sc__law_refused_right.nd rfl (Or.inr rfl)) (vgs_cons (vg_name (i := 8) (by decide) sc__law_refused_right.nd rfl (Or.inr rfl)) vgs_nil))))
      (vss_cons (vs_for (vs := [9]) own_of rfl (vi_range1 (by rfl) T.z_range (va_cons ve_int va_nil)) (vg_name (i := 9) (by decide) sc__law_refused_right.nd rfl (Or.inr rfl))
      (vss_cons (vs_if (vt_cmp (ov_neD rfl (hu64_of hr)) (ve_toldM (al := toldA T) (pe_told (k := 11) (g := gK T) T.F__law_told (by rfl) T.g__law_told T.b__law_told sc__law_told rfl (.inl rfl) (fun _ => gives__law_told T) TB rfl (List.mem_singleton.mpr rfl) (fun p hp _ => by rw [List.mem_singleton.mp hp]; rfl) (hr.mono (by decide)) (show LamX.LamS (defScope s__law_refused_right) _ from LamX.lamS_by (by decide +kernel)) rfl (fun _ _ _ _ _ => rfl) (fun A outer s H E f c hr F0 H0 xq => (ve_call (ok__law_call T) (hr.mono (by decide)) (by rfl) T.g__law_call T.F__law_call.kp T.b__law_call .nil (fun _ => .nil) hx_lam (va_cons (vpv 7) (va_cons (vpv 9) (va_cons (vpv 6) va_nil))))))) (ve_tup (va_cons ve_str va_nil)) (nomark _)) (vss_one (vs_ret ve_bl)) vss_nil)
      (vss_one (vs_if (vt_cmp (ov_neD rfl (hu64_of hr)) (ve_toldM (al := toldA T) (pe_told (k := 11) (g := gK T) T.F__law_told (by rfl) T.g__law_told T.b__law_told sc__law_told rfl (.inl rfl) (fun _ => gives__law_told T) TB rfl (List.mem_singleton.mpr rfl) (fun p hp _ => by rw [List.mem_singleton.mp hp]; rfl) (hr.mono (by decide)) (show LamX.LamS (defScope s__law_refused_right) _ from LamX.lamS_by (by decide +kernel)) rfl (fun _ _ _ _ _ => rfl) (fun A outer s H E f c hr F0 H0 xq => (ve_call (ok__law_call T) (hr.mono (by decide)) (by rfl) T.g__law_call T.F__law_call.kp T.b__law_call .nil (fun _ => .nil) hx_lam (va_cons (vpv 7) (va_cons (vpv 9) (va_cons (vpv 8) va_nil))))))) (ve_tup (va_cons ve_str (va_cons (vpv 8) va_nil))) (nomark _)) (vss_one (vs_ret ve_bl)) vss_nil))))
      (vss_one (vs_ret ve_bl)))))))))), fun ts n Q hl h => ?_⟩
  clear e lk hcd
  match ts, h with
  | [.pen], ⟨hn, h⟩ =>
    walk_at "w"
    intro a a0 a1
    walk_at "w"
    intro b b0 b1
    walk_at "w"
    intro d d0 d1
    have hB : B 30 (3 + a) := B.small (by omega) (by omega)
    have RB : B 30 (2 + b) := B.small (by omega) (by omega)
    have RB1 : B 31 (2 + b + 1) := (RB.add (B.lit (a := 1) (k := 2))).mono (by decide)
    have g2 : Int.gcd (2 + b + 1) (2 + b) = 1 := by
      rw [show 2 + b + 1 = 1 + (2 + b) * 1 by omega, Int.gcd_add_mul_left_left]
      exact Int.one_gcd
    have g3 : Int.gcd (-1) (2 + b + 1) = 1 := by rw [Int.neg_gcd]; exact Int.one_gcd
    have g1 : ∀ x : Int, Int.gcd 1 x = 1 := fun x => Int.one_gcd
    have ol : OkL4 (3 + a, d, 1, 2 + b) := ⟨(show 0 < 3 + a by omega), (show 0 < 2 + b by omega), hB.mono (by decide), RB.mono (by decide), (B.small (k := 30) (a := d) (by omega) (by omega)).mono (by decide), (B.lit (a := 1) (k := 250)), g1 _⟩
    have ga := g1 (2 + b)
    have gb := g1 (2 + b + 1)
    walk_at "w"
    intro c c0 c1
    walk_at "w"
    obtain ⟨m, hm, om, em, nc⟩ : ∃ m : L4, atI [crsT T (3 + a) (nR (2 + b + 1) (3 + a)) (nS (2 + b + 1) (3 + a) 0 1) (nr (2 + b + 1) (3 + a) 1), crsT T (3 + a) (nR (2 + b) (3 + a)) (nS (2 + b) (3 + a) 1 (2 + b + 1)) (nr (2 + b) (3 + a) (2 + b + 1)), crsT T (3 + a) (nR (2 + b + 1) (3 + a)) (nS (2 + b + 1) (3 + a) 0 (-1)) (nr (2 + b + 1) (3 + a) (-1))] c = some (crsT T (3 + a) (nR m.2.2.2 (3 + a)) (nS m.2.2.2 (3 + a) m.2.1 m.2.2.1) (nr m.2.2.2 (3 + a) m.2.2.1)) ∧ OkL4 m ∧ 3 + a = m.1 ∧ ¬ (two (3 + a, d, 1, 2 + b) m).Cnt := by
      have ok1 : OkL4 (3 + a, 0, 1, 2 + b + 1) := ⟨(show 0 < 3 + a by omega), (show 0 < 2 + b + 1 by omega), hB.mono (by decide), RB1.mono (by decide), (B.lit (a := 0) (k := 250)), (B.lit (a := 1) (k := 250)), gb⟩
      have ok2 : OkL4 (3 + a, 1, 2 + b + 1, 2 + b) := ⟨(show 0 < 3 + a by omega), (show 0 < 2 + b by omega), hB.mono (by decide), RB.mono (by decide), (B.lit (a := 1) (k := 250)), RB1.mono (by decide), g2⟩
      have ok3 : OkL4 (3 + a, 0, -1, 2 + b + 1) := ⟨(show 0 < 3 + a by omega), (show 0 < 2 + b + 1 by omega), hB.mono (by decide), RB1.mono (by decide), (B.lit (a := 0) (k := 250)), (B.lit (a := -1) (k := 250)), g3⟩
      obtain rfl | rfl | rfl : c = 0 ∨ c = 1 ∨ c = 2 := by omega
      · exact ⟨_, rfl, ok1, rfl, nc_of (by omega) (by omega) (.inl rfl)⟩
      · exact ⟨_, rfl, ok2, rfl, nc_of (by omega) (by omega) (.inr (.inl rfl))⟩
      · exact ⟨_, rfl, ok3, rfl, nc_of (by omega) (by omega) (.inr (.inr rfl))⟩
    have ok2 : OkTwo (two (3 + a, d, 1, 2 + b) m) := by
      refine ⟨crs_nf ol, ?_⟩
      have h := crs_nf om
      rw [← em] at h
      exact h
    refine ⟨_, hm, rfl, crs_at (crs_at ?_)⟩
    rw [if_pos rfl]
    walk_at "w"
    refine ⟨two (3 + a, d, 1, 2 + b) m, rfl, ok2, ?_⟩
    rw [decide_eq_false nc]
    show brT false _ _ _ _ _
    walk_at "w"
    refine ⟨two (3 + a, d, 1, 2 + b) m, rfl, ok2, ?_⟩
    rw [show decide (two (3 + a, d, 1, 2 + b) m).Par = false from decide_eq_false (fun z => nc (z.elim .inl fun z => .inr (.inl z)))]
    show brS false _ _ _ _ _
    walk_at "w"
    intro k k0 k1
    walk_at "w"
    intro odd hodd
    obtain ⟨o1, o2⟩ := odd_ok hodd
    clear hodd
    have n1 : okD (.tup [.str "not told"]) := ⟨rfl, by decide +kernel⟩
    walk_at "v"
    refine ⟨szl (Nat.le_of_ble_eq_true rfl), rfl, ⟨by decide, by decide⟩, ?_⟩
    generalize hN : n + 1 + 1 + 1 + 1 + 1 + 1 = N
    refine for_inv (fun j n' ρ => n' = N ∧ ∃ s1 s2 s3 s4 s5 s9, ρ = [.v .pen, s1, s2, s3, s4, s5, .v (.int k), .v (twoT T (two (3 + a, d, 1, 2 + b) m)), .v odd, s9]) ⟨rfl, _, _, _, _, _, _, rfl⟩ ?_ ?_
    · rintro j t n' ρ hj ⟨rfl, s1, s2, s3, s4, s5, s9, rfl⟩ K' hK
      obtain ⟨rfl, hj⟩ := rngT_get hj
      unfold twoT stmT
      walk_at "w"
      intro _ _ _
      refine ⟨rfl, two (3 + a, d, 1, 2 + b) m, rfl, ok2, nc, okQ_T (wh_T k0) ?_⟩
      refine ⟨_, _, .tail _ (.head _), .s .nil, szl (Nat.le_of_ble_eq_true rfl), ?_⟩
      walk_at "w"
      rw [eqT_refl n1]
      show brS false _ _ _ _ _
      walk_at "w"
      intro _ _ _
      refine ⟨rfl, two (3 + a, d, 1, 2 + b) m, rfl, ok2, nc, okQ_F o1 ?_⟩
      refine ⟨_, _, .tail _ (.tail _ (.head _)), .s (.f rfl .nil), szl (Nat.le_of_ble_eq_true rfl), ?_⟩
      walk_at "w"
      rw [eqT_refl o2]
      show brS false _ _ _ _ _
      walk_at "w"
      exact hK _ _ ⟨rfl, _, _, _, _, _, _, rfl⟩
    · rintro n' ρ ⟨rfl, s1, s2, s3, s4, s5, s9, rfl⟩
      walk_at "w"
      exact h _ (by omega)
theorem ok_law (T : Tx w K mg) (TB : LamX.TabB base mg T.c__law_refused_right T.P__law_refused_right) : FnOk PR w K mg base (L2.CX PR w) 15 T.f_law T.fd_law ["_law_script"] (lSp (gK T) 1 (vlaw)) := by
  refine ok_v (fun _ l b => T.F_law.okX sc_law l b) rfl (fun cdv A outer s H E F0 xq hr => ?_)
  refine ⟨_, (vss_cons (vs_set (i := 1) sc_law.nd rfl (Or.inl rfl) (ve_call (ok__law_pen T) (hr.mono (by decide)) (by rfl) T.g__law_pen T.F__law_pen.kp T.b__law_pen .nil (fun _ => .nil) hx_of (va_cons (vpv 0) va_nil)))
      (vss_cons (vs_for (vs := [2]) own_of rfl (vi_range1 (by rfl) T.z_range (va_cons (ve_op ov_add ve_int (ve_callB (cv_min2 rfl) (by rfl) T.z_min (by decide +kernel) (va_cons ve_int (va_cons (ve_callB (cv_len rfl) (by rfl) T.z_len PySem.boot_len (va_cons (vpv 0) va_nil)) va_nil)))) va_nil)) (vg_name (i := 2) (by decide) sc_law.nd rfl (Or.inl rfl))
      (vss_cons (vs_set (i := 3) sc_law.nd rfl (Or.inl rfl) (ve_cmp ov_eqS (ve_call (ok__law_draw T) (hr.mono (by decide)) (by rfl) T.g__law_draw T.F__law_draw.kp T.b__law_draw .nil (fun _ => .nil) hx_of (va_cons (vpv 1) (va_cons ve_int va_nil))) ve_int (nomark _)))
      (vss_cons (vs_asg (vs := [4, 5]) (ve_call (ok__law_lines T) (hr.mono (by decide)) (by rfl) T.g__law_lines T.F__law_lines.kp T.b__law_lines .nil (fun _ => .nil) hx_of (va_cons (vpv 1) (va_cons (vpv 3) va_nil))) (vg_tup (m := 2) rfl rfl (vgs_cons (vg_name (i := 4) (by decide) sc_law.nd rfl (Or.inl rfl)) (vgs_cons (vg_name (i := 5) (by decide) sc_law.nd rfl (Or.inl rfl)) vgs_nil))))
      (vss_cons (vs_set (i := 6) sc_law.nd rfl (Or.inl rfl) (ve_make T.oc_Statement T.M_Statement (ok_Statement___init__ T) (hr.mono (by decide)) (by rfl) T.gC_Statement T.b_Statement___init__ .nil (fun _ => .nil) hx_of (va_cons (ve_call (ok__law_course T) (hr.mono (by decide)) (by rfl) T.g__law_course T.F__law_course.kp T.b__law_course .nil (fun _ => .nil) hx_of (va_cons (vpv 4) va_nil)) (va_cons (ve_call (ok__law_course T) (hr.mono (by decide)) (by rfl) T.g__law_course T.F__law_course.kp T.b__law_course .nil (fun _ => .nil) hx_of (va_cons (vpv 5) va_nil)) va_nil))))
      (vss_cons (vs_if (PW.pt (vw_or (vt_cmp ov_notB (ve_meth0 (vpv 6) T.cl_Statement T.m_Statement_is_counted (ok_Statement_is_counted T) (hr.mono (by decide)) T.b_Statement_is_counted .nil (fun _ => .nil) hx_of) ve_bl (nomark _)) (vw_or1 (vt_cmp ov_neS (ve_meth (vpv 6) T.cl_Statement T.m_Statement_sent (ok_Statement_sent T) (hr.mono (by decide)) T.b_Statement_sent .nil (fun _ => .nil) hx_of (va_cons ve_int va_nil)) ve_int (nomark _))))) (vss_one (vs_ret ve_bl)) vss_nil)
      (vss_cons (vs_if (PW.pt (vw_and (vt_not (vt_val (vpv 3))) (vw_and1 (vt_not (vt_val (ve_call (ok__law_near_right T) (hr.mono (by decide)) (by rfl) T.g__law_near_right T.F__law_near_right.kp T.b__law_near_right .nil (fun _ => .nil) hx_of (va_cons (vpv 6) (va_cons (vpv 4) (va_cons (vpv 5) va_nil))))))))) (vss_one (vs_ret ve_bl)) vss_nil)
      (vss_cons (vs_set (i := 7) sc_law.nd rfl (Or.inl rfl) (ve_ifExp (vt_cmp ov_eqS (ve_call (ok__law_draw T) (hr.mono (by decide)) (by rfl) T.g__law_draw T.F__law_draw.kp T.b__law_draw .nil (fun _ => .nil) hx_of (va_cons (vpv 1) (va_cons ve_int va_nil))) ve_int (nomark _)) (ve_call (ok__law_great T) (hr.mono (by decide)) (by rfl) T.g__law_great T.F__law_great.kp T.b__law_great .nil (fun _ => .nil) hx_of (va_cons (vpv 1) (va_cons ve_int va_nil))) (ve_call (ok__law_draw T) (hr.mono (by decide)) (by rfl) T.g__law_draw T.F__law_draw.kp T.b__law_draw .nil (fun _ => .nil) hx_of (va_cons (vpv 1) (va_cons ve_int va_nil)))))
      (vss_cons (vs_if (vt_not (vt_val (ve_call (ok__law_step_right T) (hr.mono (by decide)) (by rfl) T.g__law_step_right T.F__law_step_right.kp T.b__law_step_right .nil (fun _ => .nil) hx_of (va_cons (vpv 1) (va_cons (vpv 6) (va_cons (vpv 4) (va_cons (vpv 5) (va_cons (vpv 7) va_nil)))))))) (vss_one (vs_ret ve_bl)) vss_nil)
      (vss_one (vs_if (vt_not (vt_val (ve_call (ok__law_refused_right T TB) (hr.mono (by decide)) (by rfl) T.g__law_refused_right T.F__law_refused_right.kp T.b__law_refused_right .nil (fun _ => .nil) hx_of (va_cons (vpv 1) va_nil)))) (vss_one (vs_ret ve_bl)) vss_nil))))))))))
      (vss_one (vs_ret ve_bl)))), fun ts n Q hl h => ?_⟩
  match ts, h with
  | [.scr ns], ⟨hl, n0, hq⟩ =>
    subst n0
    walk_at "w"
    refine for_inv (fun j n' ρ => n' ≤ 1000 * j ∧ j ≤ 2 ∧ ∃ s2 s3 s4 s5 s6 s7, ρ = [.v (.scr ns), .v .pen, s2, s3, s4, s5, s6, s7]) ⟨Nat.zero_le _, by omega, _, _, _, _, _, _, rfl⟩ ?_ ?_
    · rintro j t n' ρ hj ⟨hn', hj2, s2, s3, s4, s5, s6, s7, rfl⟩ K' hK
      obtain ⟨rfl, hj⟩ := rngT_get hj
      have hj : j < 2 := by
        have : (1 + if (ns.length : Int) < 1 then (ns.length : Int) else 1) ≤ 2 := by split <;> omega
        omega
      walk_at "w"
      intro f f0 f1
      walk_at "w"
      intro l m n1 ok hn1
      have ok2 := two_ok ok
      walk_at "w"
      refine ⟨l, rfl, ok.a, ?_⟩
      walk_at "w"
      refine ⟨m, rfl, ok.b, ?_⟩
      walk_at "w"
      have em : crL T m = crsT T l.1 (nR m.2.2.2 l.1) (nS m.2.2.2 l.1 m.2.1 m.2.2.1) (nr m.2.2.2 l.1 m.2.2.1) := by unfold crL; rw [ok.e]
      rw [em]
      unfold crL
      refine crs_at (crs_at ?_)
      rw [if_pos rfl]
      walk_at "w"
      refine ⟨two l m, rfl, ok2, ?_⟩
      rw [decide_eq_true ok.c]
      show brT false _ _ _ _ _
      walk_at "w"
      refine ⟨two l m, rfl, ok2, cnt_Q ok.c (Int.le_refl 0) ⟨B.lit, ?_⟩⟩
      show brS false _ _ _ _ _
      walk_at "w"
      refine brT_jn (fun b n' => b = false ∧ n' = n1) (fun R hR => brT_n (fun q => ?_) (fun q => ?_)) ?_
      · walk_at "w"
        refine ⟨l, m, rfl, rfl, rfl, ok, ?_⟩
        walk_at "w"
        exact hR _ _ ⟨rfl, rfl⟩
      · walk_at "w"
        exact hR _ _ ⟨rfl, rfl⟩
      · rintro b n2 ⟨rfl, rfl⟩
        walk_at "w"
        intro g g0 g1
        refine brE_jnb (fun t n' => ∃ k, t = .int k ∧ 0 ≤ k ∧ B 130 k ∧ n' ≤ n2 + 7) (fun R hR => brE_d (fun q => ?_) (fun q => ?_)) ?_
        · walk_at "w"
          intro k n3 k0 kB hn3
          exact hR _ _ ⟨k, rfl, k0, kB.mono (by decide), by omega⟩
        · walk_at "w"
          intro k k0 k1
          exact hR _ _ ⟨k, rfl, k0, (B.small (k := 30) (by omega) (by omega)).mono (by decide), by omega⟩
        · rintro t n3 ⟨k, rfl, k0, kB, hn3⟩
          walk_at "w"
          refine ⟨l, m, rfl, rfl, rfl, ok, k0, kB, by omega, fun n4 hn4 => ?_⟩
          show brS false _ _ _ _ _
          walk_at "w"
          intro n5 hn5
          show brS false _ _ _ _ _
          walk_at "w"
          exact hK _ _ ⟨by omega, by omega, _, _, _, _, _, _, rfl⟩
    · rintro n' ρ ⟨hn', hj2, s2, s3, s4, s5, s6, s7, rfl⟩
      walk_at "w"
      exact hq _
end
end K25
namespace K25
open PySem L2 DS VL NdefX LamX
set_option pp.maxSteps 300
section
variable {w : World} {K : PySem.W.Frag} {mg : Str → Option Value} {base : Heap}
def spLaw (K : PySem.W.Frag) (T : Tx w K mg) : Sp := spLawT K (gK T).TT
theorem spLaw_of (T : Tx w K mg) {H : Hp} {a : Addr} {ns : List Int} (hl : ns.length ≤ 63) (hs : SqL K H a (ns.map V.int)) (ht : H T.P__law_refused_right = some (.tbl #[])) : spLaw K T [.ref a] H (fun v _ => v = .bl true) (fun _ _ _ => False) := ⟨a, ns, rfl, hs, hl, fun p hp => by rw [List.mem_singleton.mp hp]; exact ht, fun _ => rfl⟩
theorem ok_law0 (T : Tx w K mg) (TB : LamX.TabB base mg T.c__law_refused_right T.P__law_refused_right) : FnOk PR w K mg base CX0 15 T.f_law T.fd_law ["_law_script"] (spLaw K T) := law_endT (ok_law T TB)
end
theorem all_mk {w : World} {K : PySem.W.Frag} {h : Heap} {mg : Str → Option Value} {fa : Addr} (X : K.In h) (G : h.Ns mainGlobals mg) (hfa : mg "law" = some (.ref fa))
    {C_BadValue f_BadValue___init__ cda_BadValue cc_BadValue N_BadValue : Addr} {oc_BadValue kV_BadValue dc_BadValue pm_BadValue ct_BadValue ccl_BadValue cl_BadValue : Value} {od_BadValue an_BadValue cdd_BadValue cld_BadValue dd_BadValue : Option Addr} {osl_BadValue ccs_BadValue csl_BadValue : Array (Option Value)} {vs_BadValue : Array Value} {fi_BadValue nm_BadValue qn_BadValue : Str} {tf_BadValue : Tok} {cdC_BadValue : ClassData}
    {bs_BadValue bm_BadValue su_BadValue : List Value} {sn_BadValue : List Str} {ab_BadValue : Bool} {col_BadValue : Option Bool} {k0_BadValue k1_BadValue k2_BadValue k3_BadValue k5_BadValue : Option Value}
    {C_Unlike f_Unlike___init__ cda_Unlike cc_Unlike N_Unlike : Addr} {oc_Unlike kV_Unlike dc_Unlike pm_Unlike ct_Unlike ccl_Unlike cl_Unlike : Value} {od_Unlike an_Unlike cdd_Unlike cld_Unlike dd_Unlike : Option Addr} {osl_Unlike ccs_Unlike csl_Unlike : Array (Option Value)} {vs_Unlike : Array Value} {fi_Unlike nm_Unlike qn_Unlike : Str} {tf_Unlike : Tok} {cdC_Unlike : ClassData}
    {bs_Unlike bm_Unlike su_Unlike : List Value} {sn_Unlike : List Str} {ab_Unlike : Bool} {col_Unlike : Option Bool} {k0_Unlike k1_Unlike k2_Unlike k3_Unlike k5_Unlike : Option Value}
    {C_Course : Addr}
    {C_Statement : Addr}
    {f_is_integer : Addr} {od0 an0 : Option Addr} {sl0 : Array (Option Value)} {oc0 kV0 dc0 pm0 cd0 ct0 : Value}
    {f_is_whole : Addr} {od1 an1 : Option Addr} {sl1 : Array (Option Value)} {oc1 kV1 dc1 pm1 cd1 ct1 : Value}
    {f_need_integer : Addr} {od2 an2 : Option Addr} {sl2 : Array (Option Value)} {oc2 kV2 dc2 pm2 cd2 ct2 : Value}
    {f_need_whole : Addr} {od3 an3 : Option Addr} {sl3 : Array (Option Value)} {oc3 kV3 dc3 pm3 cd3 ct3 : Value}
    {f_need_positive : Addr} {od4 an4 : Option Addr} {sl4 : Array (Option Value)} {oc4 kV4 dc4 pm4 cd4 ct4 : Value}
    {f_need_below : Addr} {od5 an5 : Option Addr} {sl5 : Array (Option Value)} {oc5 kV5 dc5 pm5 cd5 ct5 : Value}
    {f_common_factor : Addr} {od6 an6 : Option Addr} {sl6 : Array (Option Value)} {oc6 kV6 dc6 pm6 cd6 ct6 : Value}
    {f_total_of : Addr} {od7 an7 : Option Addr} {sl7 : Array (Option Value)} {oc7 kV7 dc7 pm7 cd7 ct7 : Value}
    {f_count_in : Addr} {od8 an8 : Option Addr} {sl8 : Array (Option Value)} {oc8 kV8 dc8 pm8 cd8 ct8 : Value}
    {f_folded : Addr} {od9 an9 : Option Addr} {sl9 : Array (Option Value)} {oc9 kV9 dc9 pm9 cd9 ct9 : Value}
    {f_raised : Addr} {od10 an10 : Option Addr} {sl10 : Array (Option Value)} {oc10 kV10 dc10 pm10 cd10 ct10 : Value}
    {f_sums_of : Addr} {od11 an11 : Option Addr} {sl11 : Array (Option Value)} {oc11 kV11 dc11 pm11 cd11 ct11 : Value}
    {f_floor_sums : Addr} {od12 an12 : Option Addr} {sl12 : Array (Option Value)} {oc12 kV12 dc12 pm12 cd12 ct12 : Value}
    {f_Course___init__ : Addr} {od13 an13 : Option Addr} {sl13 : Array (Option Value)} {oc13 kV13 dc13 pm13 cd13 ct13 : Value}
    {f_Course___eq__ : Addr} {od14 an14 : Option Addr} {sl14 : Array (Option Value)} {oc14 kV14 dc14 pm14 cd14 ct14 : Value}
    {f_Course___call__ : Addr} {od15 an15 : Option Addr} {sl15 : Array (Option Value)} {oc15 kV15 dc15 pm15 cd15 ct15 : Value}
    {f_Course_marks : Addr} {od16 an16 : Option Addr} {sl16 : Array (Option Value)} {oc16 kV16 dc16 pm16 cd16 ct16 : Value}
    {f_Course_spacing : Addr} {od17 an17 : Option Addr} {sl17 : Array (Option Value)} {oc17 kV17 dc17 pm17 cd17 ct17 : Value}
    {f_Course_turn : Addr} {od18 an18 : Option Addr} {sl18 : Array (Option Value)} {oc18 kV18 dc18 pm18 cd18 ct18 : Value}
    {f_Course_counted : Addr} {od19 an19 : Option Addr} {sl19 : Array (Option Value)} {oc19 kV19 dc19 pm19 cd19 ct19 : Value}
    {f_Course_count : Addr} {od20 an20 : Option Addr} {sl20 : Array (Option Value)} {oc20 kV20 dc20 pm20 cd20 ct20 : Value}
    {f_is_level : Addr} {od21 an21 : Option Addr} {sl21 : Array (Option Value)} {oc21 kV21 dc21 pm21 cd21 ct21 : Value}
    {f_is_opposite : Addr} {od22 an22 : Option Addr} {sl22 : Array (Option Value)} {oc22 kV22 dc22 pm22 cd22 ct22 : Value}
    {f_marks_below : Addr} {od23 an23 : Option Addr} {sl23 : Array (Option Value)} {oc23 kV23 dc23 pm23 cd23 ct23 : Value}
    {f_sent_marks : Addr} {od24 an24 : Option Addr} {sl24 : Array (Option Value)} {oc24 kV24 dc24 pm24 cd24 ct24 : Value}
    {f_halves : Addr} {od25 an25 : Option Addr} {sl25 : Array (Option Value)} {oc25 kV25 dc25 pm25 cd25 ct25 : Value}
    {f_kept_marks : Addr} {od26 an26 : Option Addr} {sl26 : Array (Option Value)} {oc26 kV26 dc26 pm26 cd26 ct26 : Value}
    {f_sent_below : Addr} {od27 an27 : Option Addr} {sl27 : Array (Option Value)} {oc27 kV27 dc27 pm27 cd27 ct27 : Value}
    {f_Statement___init__ : Addr} {od28 an28 : Option Addr} {sl28 : Array (Option Value)} {oc28 kV28 dc28 pm28 cd28 ct28 : Value}
    {f_Statement_is_silent : Addr} {od29 an29 : Option Addr} {sl29 : Array (Option Value)} {oc29 kV29 dc29 pm29 cd29 ct29 : Value}
    {f_Statement_need_counted : Addr} {od30 an30 : Option Addr} {sl30 : Array (Option Value)} {oc30 kV30 dc30 pm30 cd30 ct30 : Value}
    {f_Statement_turn : Addr} {od31 an31 : Option Addr} {sl31 : Array (Option Value)} {oc31 kV31 dc31 pm31 cd31 ct31 : Value}
    {f_Statement_is_parallel : Addr} {od32 an32 : Option Addr} {sl32 : Array (Option Value)} {oc32 kV32 dc32 pm32 cd32 ct32 : Value}
    {f_Statement_is_counted : Addr} {od33 an33 : Option Addr} {sl33 : Array (Option Value)} {oc33 kV33 dc33 pm33 cd33 ct33 : Value}
    {f_Statement_sent : Addr} {od34 an34 : Option Addr} {sl34 : Array (Option Value)} {oc34 kV34 dc34 pm34 cd34 ct34 : Value}
    {f_Statement_sent_item : Addr} {od35 an35 : Option Addr} {sl35 : Array (Option Value)} {oc35 kV35 dc35 pm35 cd35 ct35 : Value}
    {f_Statement_item_within : Addr} {od36 an36 : Option Addr} {sl36 : Array (Option Value)} {oc36 kV36 dc36 pm36 cd36 ct36 : Value}
    {f_Statement_next_sent : Addr} {od37 an37 : Option Addr} {sl37 : Array (Option Value)} {oc37 kV37 dc37 pm37 cd37 ct37 : Value}
    {f__law_pen : Addr} {od38 an38 : Option Addr} {sl38 : Array (Option Value)} {oc38 kV38 dc38 pm38 cd38 ct38 : Value}
    {f__law_draw : Addr} {od39 an39 : Option Addr} {sl39 : Array (Option Value)} {oc39 kV39 dc39 pm39 cd39 ct39 : Value}
    {f__law_pick : Addr} {od40 an40 : Option Addr} {sl40 : Array (Option Value)} {oc40 kV40 dc40 pm40 cd40 ct40 : Value}
    {f__law_great : Addr} {od41 an41 : Option Addr} {sl41 : Array (Option Value)} {oc41 kV41 dc41 pm41 cd41 ct41 : Value}
    {f__law_factor : Addr} {od42 an42 : Option Addr} {sl42 : Array (Option Value)} {oc42 kV42 dc42 pm42 cd42 ct42 : Value}
    {f__law_house : Addr} {od43 an43 : Option Addr} {sl43 : Array (Option Value)} {oc43 kV43 dc43 pm43 cd43 ct43 : Value}
    {f__law_course : Addr} {od44 an44 : Option Addr} {sl44 : Array (Option Value)} {oc44 kV44 dc44 pm44 cd44 ct44 : Value}
    {f__law_told : Addr} {od45 an45 : Option Addr} {sl45 : Array (Option Value)} {oc45 kV45 dc45 pm45 cd45 ct45 : Value}
    {f__law_sent : Addr} {od46 an46 : Option Addr} {sl46 : Array (Option Value)} {oc46 kV46 dc46 pm46 cd46 ct46 : Value}
    {f__law_line : Addr} {od47 an47 : Option Addr} {sl47 : Array (Option Value)} {oc47 kV47 dc47 pm47 cd47 ct47 : Value}
    {f__law_lines : Addr} {od48 an48 : Option Addr} {sl48 : Array (Option Value)} {oc48 kV48 dc48 pm48 cd48 ct48 : Value}
    {f__law_step_right : Addr} {od49 an49 : Option Addr} {sl49 : Array (Option Value)} {oc49 kV49 dc49 pm49 cd49 ct49 : Value}
    {f__law_near_right : Addr} {od50 an50 : Option Addr} {sl50 : Array (Option Value)} {oc50 kV50 dc50 pm50 cd50 ct50 : Value}
    {f__law_call : Addr} {od51 an51 : Option Addr} {sl51 : Array (Option Value)} {oc51 kV51 dc51 pm51 cd51 ct51 : Value}
    {f__law_refused_right cR52 P52 : Addr} {od52 an52 dL52 : Option Addr} {sl52 sL52 : Array (Option Value)} {oc52 kV52 dc52 pm52 cL52 ct52 : Value} {vL52 : Array Value}
    {f_law : Addr} {od53 an53 : Option Addr} {sl53 : Array (Option Value)} {oc53 kV53 dc53 pm53 cd53 ct53 : Value}
    {C_NotTold : Addr}
    (xC_BadValue : PySem.W.nsIn K mainGlobals "BadValue" = some (some (.ref C_BadValue)))
    (xi_BadValue : PySem.W.findIn K (.ref C_BadValue) "__init__" = some (some (.ref f_BadValue___init__)))
    (xl_BadValue : K.lookup f_BadValue___init__ = some ⟨oc_BadValue, od_BadValue, .func (PySem.W.ksFn "__init__" "BadValue.__init__" (defArgs s_BadValue___init__) (defBody s_BadValue___init__) (defScope s_BadValue___init__) .none kV_BadValue dc_BadValue pm_BadValue an_BadValue (.ref cda_BadValue) ct_BadValue cc_BadValue), osl_BadValue⟩)
    (xc_BadValue : PySem.W.codeIn K (.ref cda_BadValue) "BadValue.__init__" = true)
    (xd_BadValue : K.lookup cda_BadValue = some ⟨ccl_BadValue, cdd_BadValue, .fields vs_BadValue, ccs_BadValue⟩)
    (xv_BadValue : vs_BadValue[2]? = some (.str fi_BadValue tf_BadValue))
    (xf_BadValue : ((PR.main.file : Str) == fi_BadValue) = true)
    (xe_BadValue : K.lookup cc_BadValue = some ⟨cl_BadValue, cld_BadValue, .cell (some (.ref C_BadValue)), csl_BadValue⟩)
    (xk_BadValue : PySem.W.clsIn K C_BadValue = some cdC_BadValue)
    (xm_BadValue : PySem.W.mroIn K C_BadValue (.ref C_BadValue) = some true)
    (xt_BadValue : (PR.main.scope.names.lookup ("super" : Str)).isSome = false)
    (xa_BadValue : PySem.W.nsIn K cStatics "thirdparty.any" = some none)
    (xs_BadValue : PySem.W.ks_superIn K C_BadValue C_BadValue "__init__" = some (some (.builtin "ValueError.__init__")))
    (xb_BadValue : PySem.W.subIn K (.ref C_BadValue) (.type "ValueError") = some true)
    (xo_BadValue : K.lookup C_BadValue = some (excClassObj nm_BadValue qn_BadValue C_BadValue N_BadValue bs_BadValue bm_BadValue true sn_BadValue su_BadValue ab_BadValue col_BadValue dd_BadValue k0_BadValue k1_BadValue k2_BadValue k3_BadValue k5_BadValue "ValueError.__new__"))
    (xr_BadValue : PySem.HandSPX.refsVE bm_BadValue = true)
    (xw_BadValue : PySem.W.findIn K (.ref C_BadValue) "__setattr__" = some (some (.builtin "object.__setattr__")))
    (xx_BadValue : PySem.W.subIn K (.ref C_BadValue) (.type "BaseException") = some true)
    (xy_BadValue : PySem.W.typeIn K (.ref C_BadValue) = some (.type "type"))
    (xp_BadValue : PySem.W.keepIn K (.ref C_BadValue) = true)
    (xn_BadValue : PySem.W.findIn K (.ref C_BadValue) "value" = some none)
    (xj_BadValue : PySem.W.typeIn K (.ref f_BadValue___init__) = some (.type "function"))
    (xg_BadValue : PySem.W.findIn K (.ref C_BadValue) "__getattribute__" = some (some (.builtin "BaseException.__getattribute__")))
    (xh_BadValue : PySem.W.findIn K (.ref C_BadValue) "__getattr__" = some none)
    (xq_BadValue : PySem.W.hasDictIn K C_BadValue = true)
    (xz_BadValue : PySem.W.exmOne K (.ref C_BadValue) (.ref C_BadValue) = some true)
    (xC_Unlike : PySem.W.nsIn K mainGlobals "Unlike" = some (some (.ref C_Unlike)))
    (xi_Unlike : PySem.W.findIn K (.ref C_Unlike) "__init__" = some (some (.ref f_Unlike___init__)))
    (xl_Unlike : K.lookup f_Unlike___init__ = some ⟨oc_Unlike, od_Unlike, .func (PySem.W.ksFn "__init__" "Unlike.__init__" (defArgs s_Unlike___init__) (defBody s_Unlike___init__) (defScope s_Unlike___init__) .none kV_Unlike dc_Unlike pm_Unlike an_Unlike (.ref cda_Unlike) ct_Unlike cc_Unlike), osl_Unlike⟩)
    (xc_Unlike : PySem.W.codeIn K (.ref cda_Unlike) "Unlike.__init__" = true)
    (xd_Unlike : K.lookup cda_Unlike = some ⟨ccl_Unlike, cdd_Unlike, .fields vs_Unlike, ccs_Unlike⟩)
    (xv_Unlike : vs_Unlike[2]? = some (.str fi_Unlike tf_Unlike))
    (xf_Unlike : ((PR.main.file : Str) == fi_Unlike) = true)
    (xe_Unlike : K.lookup cc_Unlike = some ⟨cl_Unlike, cld_Unlike, .cell (some (.ref C_Unlike)), csl_Unlike⟩)
    (xk_Unlike : PySem.W.clsIn K C_Unlike = some cdC_Unlike)
    (xm_Unlike : PySem.W.mroIn K C_Unlike (.ref C_Unlike) = some true)
    (xt_Unlike : (PR.main.scope.names.lookup ("super" : Str)).isSome = false)
    (xa_Unlike : PySem.W.nsIn K cStatics "thirdparty.any" = some none)
    (xs_Unlike : PySem.W.ks_superIn K C_Unlike C_Unlike "__init__" = some (some (.builtin "ValueError.__init__")))
    (xb_Unlike : PySem.W.subIn K (.ref C_Unlike) (.type "ValueError") = some true)
    (xo_Unlike : K.lookup C_Unlike = some (excClassObj nm_Unlike qn_Unlike C_Unlike N_Unlike bs_Unlike bm_Unlike true sn_Unlike su_Unlike ab_Unlike col_Unlike dd_Unlike k0_Unlike k1_Unlike k2_Unlike k3_Unlike k5_Unlike "ValueError.__new__"))
    (xr_Unlike : PySem.HandSPX.refsVE bm_Unlike = true)
    (xw_Unlike : PySem.W.findIn K (.ref C_Unlike) "__setattr__" = some (some (.builtin "object.__setattr__")))
    (xx_Unlike : PySem.W.subIn K (.ref C_Unlike) (.type "BaseException") = some true)
    (xy_Unlike : PySem.W.typeIn K (.ref C_Unlike) = some (.type "type"))
    (xp_Unlike : PySem.W.keepIn K (.ref C_Unlike) = true)
    (xn_Unlike : PySem.W.findIn K (.ref C_Unlike) "one" = some none)
    (xj_Unlike : PySem.W.typeIn K (.ref f_Unlike___init__) = some (.type "function"))
    (xg_Unlike : PySem.W.findIn K (.ref C_Unlike) "__getattribute__" = some (some (.builtin "BaseException.__getattribute__")))
    (xh_Unlike : PySem.W.findIn K (.ref C_Unlike) "__getattr__" = some none)
    (xq_Unlike : PySem.W.hasDictIn K C_Unlike = true)
    (xz_Unlike : PySem.W.exmOne K (.ref C_Unlike) (.ref C_Unlike) = some true)
    (aC_Course : PySem.W.nsIn K mainGlobals "Course" = some (some (.ref C_Course)))
    (pg_Course : PySem.W.plainGet K C_Course Str.empty = true)
    (hd_Course : PySem.W.hasDictIn K C_Course = true)
    (po_Course : PySem.W.plainOver K C_Course = true)
    (sa_Course : PySem.W.findIn K (.ref C_Course) "__setattr__" = some (some (.builtin "object.__setattr__")))
    (mk_Course : PySem.W.makesIn K C_Course = true)
    (kc_Course : PySem.W.keepIn K (.ref C_Course) = true)
    (tya_Course : PySem.W.findIn K (.ref C_Course) "__class__" = some (some (.builtin "object.__class__")))
    (tyb_Course : PySem.W.specialIn K (.builtin "object.__class__") "__get__" = some (some (.builtin "getset_descriptor.__get__")))
    (tyc_Course : PySem.W.takesIn K (.builtin "object.__class__") = some true)
    (tyd_Course : PySem.W.mroIn K C_Course (.type "object") = some true)
    (n_Course_houses : PySem.W.findIn K (.ref C_Course) "houses" = some none)
    (n_Course_run : PySem.W.findIn K (.ref C_Course) "run" = some none)
    (n_Course_start : PySem.W.findIn K (.ref C_Course) "start" = some none)
    (n_Course_rise : PySem.W.findIn K (.ref C_Course) "rise" = some none)
    (aC_Statement : PySem.W.nsIn K mainGlobals "Statement" = some (some (.ref C_Statement)))
    (pg_Statement : PySem.W.plainGet K C_Statement Str.empty = true)
    (hd_Statement : PySem.W.hasDictIn K C_Statement = true)
    (po_Statement : PySem.W.plainOver K C_Statement = true)
    (sa_Statement : PySem.W.findIn K (.ref C_Statement) "__setattr__" = some (some (.builtin "object.__setattr__")))
    (mk_Statement : PySem.W.makesIn K C_Statement = true)
    (kc_Statement : PySem.W.keepIn K (.ref C_Statement) = true)
    (tya_Statement : PySem.W.findIn K (.ref C_Statement) "__class__" = some (some (.builtin "object.__class__")))
    (tyb_Statement : PySem.W.specialIn K (.builtin "object.__class__") "__get__" = some (some (.builtin "getset_descriptor.__get__")))
    (tyc_Statement : PySem.W.takesIn K (.builtin "object.__class__") = some true)
    (tyd_Statement : PySem.W.mroIn K C_Statement (.type "object") = some true)
    (n_Statement_target : PySem.W.findIn K (.ref C_Statement) "target" = some none)
    (n_Statement_source : PySem.W.findIn K (.ref C_Statement) "source" = some none)
    (a0 : PySem.W.nsIn K mainGlobals "is_integer" = some (some (.ref f_is_integer)))
    (l0 : K.lookup f_is_integer = some ⟨oc0, od0, .func (PySem.W.fnOf "is_integer" "is_integer" (defArgs s_is_integer) (defBody s_is_integer) (defScope s_is_integer) .none kV0 dc0 pm0 an0 cd0 ct0), sl0⟩)
    (c0 : PySem.W.codeIn K cd0 "is_integer" = true)
    (k0 : PySem.W.keepIn K (.ref f_is_integer) = true)
    (a1 : PySem.W.nsIn K mainGlobals "is_whole" = some (some (.ref f_is_whole)))
    (l1 : K.lookup f_is_whole = some ⟨oc1, od1, .func (PySem.W.fnOf "is_whole" "is_whole" (defArgs s_is_whole) (defBody s_is_whole) (defScope s_is_whole) .none kV1 dc1 pm1 an1 cd1 ct1), sl1⟩)
    (c1 : PySem.W.codeIn K cd1 "is_whole" = true)
    (k1 : PySem.W.keepIn K (.ref f_is_whole) = true)
    (a2 : PySem.W.nsIn K mainGlobals "need_integer" = some (some (.ref f_need_integer)))
    (l2 : K.lookup f_need_integer = some ⟨oc2, od2, .func (PySem.W.fnOf "need_integer" "need_integer" (defArgs s_need_integer) (defBody s_need_integer) (defScope s_need_integer) .none kV2 dc2 pm2 an2 cd2 ct2), sl2⟩)
    (c2 : PySem.W.codeIn K cd2 "need_integer" = true)
    (k2 : PySem.W.keepIn K (.ref f_need_integer) = true)
    (a3 : PySem.W.nsIn K mainGlobals "need_whole" = some (some (.ref f_need_whole)))
    (l3 : K.lookup f_need_whole = some ⟨oc3, od3, .func (PySem.W.fnOf "need_whole" "need_whole" (defArgs s_need_whole) (defBody s_need_whole) (defScope s_need_whole) .none kV3 dc3 pm3 an3 cd3 ct3), sl3⟩)
    (c3 : PySem.W.codeIn K cd3 "need_whole" = true)
    (k3 : PySem.W.keepIn K (.ref f_need_whole) = true)
    (a4 : PySem.W.nsIn K mainGlobals "need_positive" = some (some (.ref f_need_positive)))
    (l4 : K.lookup f_need_positive = some ⟨oc4, od4, .func (PySem.W.fnOf "need_positive" "need_positive" (defArgs s_need_positive) (defBody s_need_positive) (defScope s_need_positive) .none kV4 dc4 pm4 an4 cd4 ct4), sl4⟩)
    (c4 : PySem.W.codeIn K cd4 "need_positive" = true)
    (k4 : PySem.W.keepIn K (.ref f_need_positive) = true)
    (a5 : PySem.W.nsIn K mainGlobals "need_below" = some (some (.ref f_need_below)))
    (l5 : K.lookup f_need_below = some ⟨oc5, od5, .func (PySem.W.fnOf "need_below" "need_below" (defArgs s_need_below) (defBody s_need_below) (defScope s_need_below) .none kV5 dc5 pm5 an5 cd5 ct5), sl5⟩)
    (c5 : PySem.W.codeIn K cd5 "need_below" = true)
    (k5 : PySem.W.keepIn K (.ref f_need_below) = true)
    (a6 : PySem.W.nsIn K mainGlobals "common_factor" = some (some (.ref f_common_factor)))
    (l6 : K.lookup f_common_factor = some ⟨oc6, od6, .func (PySem.W.fnOf "common_factor" "common_factor" (defArgs s_common_factor) (defBody s_common_factor) (defScope s_common_factor) .none kV6 dc6 pm6 an6 cd6 ct6), sl6⟩)
    (c6 : PySem.W.codeIn K cd6 "common_factor" = true)
    (k6 : PySem.W.keepIn K (.ref f_common_factor) = true)
    (a7 : PySem.W.nsIn K mainGlobals "total_of" = some (some (.ref f_total_of)))
    (l7 : K.lookup f_total_of = some ⟨oc7, od7, .func (PySem.W.fnOf "total_of" "total_of" (defArgs s_total_of) (defBody s_total_of) (defScope s_total_of) .none kV7 dc7 pm7 an7 cd7 ct7), sl7⟩)
    (c7 : PySem.W.codeIn K cd7 "total_of" = true)
    (k7 : PySem.W.keepIn K (.ref f_total_of) = true)
    (a8 : PySem.W.nsIn K mainGlobals "count_in" = some (some (.ref f_count_in)))
    (l8 : K.lookup f_count_in = some ⟨oc8, od8, .func (PySem.W.fnOf "count_in" "count_in" (defArgs s_count_in) (defBody s_count_in) (defScope s_count_in) .none kV8 dc8 pm8 an8 cd8 ct8), sl8⟩)
    (c8 : PySem.W.codeIn K cd8 "count_in" = true)
    (k8 : PySem.W.keepIn K (.ref f_count_in) = true)
    (a9 : PySem.W.nsIn K mainGlobals "folded" = some (some (.ref f_folded)))
    (l9 : K.lookup f_folded = some ⟨oc9, od9, .func (PySem.W.fnOf "folded" "folded" (defArgs s_folded) (defBody s_folded) (defScope s_folded) .none kV9 dc9 pm9 an9 cd9 ct9), sl9⟩)
    (c9 : PySem.W.codeIn K cd9 "folded" = true)
    (k9 : PySem.W.keepIn K (.ref f_folded) = true)
    (a10 : PySem.W.nsIn K mainGlobals "raised" = some (some (.ref f_raised)))
    (l10 : K.lookup f_raised = some ⟨oc10, od10, .func (PySem.W.fnOf "raised" "raised" (defArgs s_raised) (defBody s_raised) (defScope s_raised) .none kV10 dc10 pm10 an10 cd10 ct10), sl10⟩)
    (c10 : PySem.W.codeIn K cd10 "raised" = true)
    (k10 : PySem.W.keepIn K (.ref f_raised) = true)
    (a11 : PySem.W.nsIn K mainGlobals "sums_of" = some (some (.ref f_sums_of)))
    (l11 : K.lookup f_sums_of = some ⟨oc11, od11, .func (PySem.W.fnOf "sums_of" "sums_of" (defArgs s_sums_of) (defBody s_sums_of) (defScope s_sums_of) .none kV11 dc11 pm11 an11 cd11 ct11), sl11⟩)
    (c11 : PySem.W.codeIn K cd11 "sums_of" = true)
    (k11 : PySem.W.keepIn K (.ref f_sums_of) = true)
    (a12 : PySem.W.nsIn K mainGlobals "floor_sums" = some (some (.ref f_floor_sums)))
    (l12 : K.lookup f_floor_sums = some ⟨oc12, od12, .func (PySem.W.fnOf "floor_sums" "floor_sums" (defArgs s_floor_sums) (defBody s_floor_sums) (defScope s_floor_sums) .none kV12 dc12 pm12 an12 cd12 ct12), sl12⟩)
    (c12 : PySem.W.codeIn K cd12 "floor_sums" = true)
    (k12 : PySem.W.keepIn K (.ref f_floor_sums) = true)
    (a13 : PySem.W.findIn K (.ref C_Course) "__init__" = some (some (.ref f_Course___init__)))
    (i13 : PySem.W.isFn K (.ref f_Course___init__) = true)
    (l13 : K.lookup f_Course___init__ = some ⟨oc13, od13, .func (PySem.W.fnOf "__init__" "Course.__init__" (defArgs s_Course___init__) (defBody s_Course___init__) (defScope s_Course___init__) .none kV13 dc13 pm13 an13 cd13 ct13), sl13⟩)
    (c13 : PySem.W.codeIn K cd13 "Course.__init__" = true)
    (k13 : PySem.W.keepIn K (.ref f_Course___init__) = true)
    (a14 : PySem.W.findIn K (.ref C_Course) "__eq__" = some (some (.ref f_Course___eq__)))
    (i14 : PySem.W.isFn K (.ref f_Course___eq__) = true)
    (l14 : K.lookup f_Course___eq__ = some ⟨oc14, od14, .func (PySem.W.fnOf "__eq__" "Course.__eq__" (defArgs s_Course___eq__) (defBody s_Course___eq__) (defScope s_Course___eq__) .none kV14 dc14 pm14 an14 cd14 ct14), sl14⟩)
    (c14 : PySem.W.codeIn K cd14 "Course.__eq__" = true)
    (k14 : PySem.W.keepIn K (.ref f_Course___eq__) = true)
    (a15 : PySem.W.findIn K (.ref C_Course) "__call__" = some (some (.ref f_Course___call__)))
    (i15 : PySem.W.isFn K (.ref f_Course___call__) = true)
    (l15 : K.lookup f_Course___call__ = some ⟨oc15, od15, .func (PySem.W.fnOf "__call__" "Course.__call__" (defArgs s_Course___call__) (defBody s_Course___call__) (defScope s_Course___call__) .none kV15 dc15 pm15 an15 cd15 ct15), sl15⟩)
    (c15 : PySem.W.codeIn K cd15 "Course.__call__" = true)
    (k15 : PySem.W.keepIn K (.ref f_Course___call__) = true)
    (a16 : PySem.W.findIn K (.ref C_Course) "marks" = some (some (.ref f_Course_marks)))
    (i16 : PySem.W.isFn K (.ref f_Course_marks) = true)
    (l16 : K.lookup f_Course_marks = some ⟨oc16, od16, .func (PySem.W.fnOf "marks" "Course.marks" (defArgs s_Course_marks) (defBody s_Course_marks) (defScope s_Course_marks) .none kV16 dc16 pm16 an16 cd16 ct16), sl16⟩)
    (c16 : PySem.W.codeIn K cd16 "Course.marks" = true)
    (k16 : PySem.W.keepIn K (.ref f_Course_marks) = true)
    (a17 : PySem.W.findIn K (.ref C_Course) "spacing" = some (some (.ref f_Course_spacing)))
    (i17 : PySem.W.isFn K (.ref f_Course_spacing) = true)
    (l17 : K.lookup f_Course_spacing = some ⟨oc17, od17, .func (PySem.W.fnOf "spacing" "Course.spacing" (defArgs s_Course_spacing) (defBody s_Course_spacing) (defScope s_Course_spacing) .none kV17 dc17 pm17 an17 cd17 ct17), sl17⟩)
    (c17 : PySem.W.codeIn K cd17 "Course.spacing" = true)
    (k17 : PySem.W.keepIn K (.ref f_Course_spacing) = true)
    (a18 : PySem.W.findIn K (.ref C_Course) "turn" = some (some (.ref f_Course_turn)))
    (i18 : PySem.W.isFn K (.ref f_Course_turn) = true)
    (l18 : K.lookup f_Course_turn = some ⟨oc18, od18, .func (PySem.W.fnOf "turn" "Course.turn" (defArgs s_Course_turn) (defBody s_Course_turn) (defScope s_Course_turn) .none kV18 dc18 pm18 an18 cd18 ct18), sl18⟩)
    (c18 : PySem.W.codeIn K cd18 "Course.turn" = true)
    (k18 : PySem.W.keepIn K (.ref f_Course_turn) = true)
    (a19 : PySem.W.findIn K (.ref C_Course) "counted" = some (some (.ref f_Course_counted)))
    (i19 : PySem.W.isFn K (.ref f_Course_counted) = true)
    (l19 : K.lookup f_Course_counted = some ⟨oc19, od19, .func (PySem.W.fnOf "counted" "Course.counted" (defArgs s_Course_counted) (defBody s_Course_counted) (defScope s_Course_counted) .none kV19 dc19 pm19 an19 cd19 ct19), sl19⟩)
    (c19 : PySem.W.codeIn K cd19 "Course.counted" = true)
    (k19 : PySem.W.keepIn K (.ref f_Course_counted) = true)
    (a20 : PySem.W.findIn K (.ref C_Course) "count" = some (some (.ref f_Course_count)))
    (i20 : PySem.W.isFn K (.ref f_Course_count) = true)
    (l20 : K.lookup f_Course_count = some ⟨oc20, od20, .func (PySem.W.fnOf "count" "Course.count" (defArgs s_Course_count) (defBody s_Course_count) (defScope s_Course_count) .none kV20 dc20 pm20 an20 cd20 ct20), sl20⟩)
    (c20 : PySem.W.codeIn K cd20 "Course.count" = true)
    (k20 : PySem.W.keepIn K (.ref f_Course_count) = true)
    (a21 : PySem.W.nsIn K mainGlobals "is_level" = some (some (.ref f_is_level)))
    (l21 : K.lookup f_is_level = some ⟨oc21, od21, .func (PySem.W.fnOf "is_level" "is_level" (defArgs s_is_level) (defBody s_is_level) (defScope s_is_level) .none kV21 dc21 pm21 an21 cd21 ct21), sl21⟩)
    (c21 : PySem.W.codeIn K cd21 "is_level" = true)
    (k21 : PySem.W.keepIn K (.ref f_is_level) = true)
    (a22 : PySem.W.nsIn K mainGlobals "is_opposite" = some (some (.ref f_is_opposite)))
    (l22 : K.lookup f_is_opposite = some ⟨oc22, od22, .func (PySem.W.fnOf "is_opposite" "is_opposite" (defArgs s_is_opposite) (defBody s_is_opposite) (defScope s_is_opposite) .none kV22 dc22 pm22 an22 cd22 ct22), sl22⟩)
    (c22 : PySem.W.codeIn K cd22 "is_opposite" = true)
    (k22 : PySem.W.keepIn K (.ref f_is_opposite) = true)
    (a23 : PySem.W.nsIn K mainGlobals "marks_below" = some (some (.ref f_marks_below)))
    (l23 : K.lookup f_marks_below = some ⟨oc23, od23, .func (PySem.W.fnOf "marks_below" "marks_below" (defArgs s_marks_below) (defBody s_marks_below) (defScope s_marks_below) .none kV23 dc23 pm23 an23 cd23 ct23), sl23⟩)
    (c23 : PySem.W.codeIn K cd23 "marks_below" = true)
    (k23 : PySem.W.keepIn K (.ref f_marks_below) = true)
    (a24 : PySem.W.nsIn K mainGlobals "sent_marks" = some (some (.ref f_sent_marks)))
    (l24 : K.lookup f_sent_marks = some ⟨oc24, od24, .func (PySem.W.fnOf "sent_marks" "sent_marks" (defArgs s_sent_marks) (defBody s_sent_marks) (defScope s_sent_marks) .none kV24 dc24 pm24 an24 cd24 ct24), sl24⟩)
    (c24 : PySem.W.codeIn K cd24 "sent_marks" = true)
    (k24 : PySem.W.keepIn K (.ref f_sent_marks) = true)
    (a25 : PySem.W.nsIn K mainGlobals "halves" = some (some (.ref f_halves)))
    (l25 : K.lookup f_halves = some ⟨oc25, od25, .func (PySem.W.fnOf "halves" "halves" (defArgs s_halves) (defBody s_halves) (defScope s_halves) .none kV25 dc25 pm25 an25 cd25 ct25), sl25⟩)
    (c25 : PySem.W.codeIn K cd25 "halves" = true)
    (k25 : PySem.W.keepIn K (.ref f_halves) = true)
    (a26 : PySem.W.nsIn K mainGlobals "kept_marks" = some (some (.ref f_kept_marks)))
    (l26 : K.lookup f_kept_marks = some ⟨oc26, od26, .func (PySem.W.fnOf "kept_marks" "kept_marks" (defArgs s_kept_marks) (defBody s_kept_marks) (defScope s_kept_marks) .none kV26 dc26 pm26 an26 cd26 ct26), sl26⟩)
    (c26 : PySem.W.codeIn K cd26 "kept_marks" = true)
    (k26 : PySem.W.keepIn K (.ref f_kept_marks) = true)
    (a27 : PySem.W.nsIn K mainGlobals "sent_below" = some (some (.ref f_sent_below)))
    (l27 : K.lookup f_sent_below = some ⟨oc27, od27, .func (PySem.W.fnOf "sent_below" "sent_below" (defArgs s_sent_below) (defBody s_sent_below) (defScope s_sent_below) .none kV27 dc27 pm27 an27 cd27 ct27), sl27⟩)
    (c27 : PySem.W.codeIn K cd27 "sent_below" = true)
    (k27 : PySem.W.keepIn K (.ref f_sent_below) = true)
    (a28 : PySem.W.findIn K (.ref C_Statement) "__init__" = some (some (.ref f_Statement___init__)))
    (i28 : PySem.W.isFn K (.ref f_Statement___init__) = true)
    (l28 : K.lookup f_Statement___init__ = some ⟨oc28, od28, .func (PySem.W.fnOf "__init__" "Statement.__init__" (defArgs s_Statement___init__) (defBody s_Statement___init__) (defScope s_Statement___init__) .none kV28 dc28 pm28 an28 cd28 ct28), sl28⟩)
    (c28 : PySem.W.codeIn K cd28 "Statement.__init__" = true)
    (k28 : PySem.W.keepIn K (.ref f_Statement___init__) = true)
    (a29 : PySem.W.findIn K (.ref C_Statement) "is_silent" = some (some (.ref f_Statement_is_silent)))
    (i29 : PySem.W.isFn K (.ref f_Statement_is_silent) = true)
    (l29 : K.lookup f_Statement_is_silent = some ⟨oc29, od29, .func (PySem.W.fnOf "is_silent" "Statement.is_silent" (defArgs s_Statement_is_silent) (defBody s_Statement_is_silent) (defScope s_Statement_is_silent) .none kV29 dc29 pm29 an29 cd29 ct29), sl29⟩)
    (c29 : PySem.W.codeIn K cd29 "Statement.is_silent" = true)
    (k29 : PySem.W.keepIn K (.ref f_Statement_is_silent) = true)
    (a30 : PySem.W.findIn K (.ref C_Statement) "need_counted" = some (some (.ref f_Statement_need_counted)))
    (i30 : PySem.W.isFn K (.ref f_Statement_need_counted) = true)
    (l30 : K.lookup f_Statement_need_counted = some ⟨oc30, od30, .func (PySem.W.fnOf "need_counted" "Statement.need_counted" (defArgs s_Statement_need_counted) (defBody s_Statement_need_counted) (defScope s_Statement_need_counted) .none kV30 dc30 pm30 an30 cd30 ct30), sl30⟩)
    (c30 : PySem.W.codeIn K cd30 "Statement.need_counted" = true)
    (k30 : PySem.W.keepIn K (.ref f_Statement_need_counted) = true)
    (a31 : PySem.W.findIn K (.ref C_Statement) "turn" = some (some (.ref f_Statement_turn)))
    (i31 : PySem.W.isFn K (.ref f_Statement_turn) = true)
    (l31 : K.lookup f_Statement_turn = some ⟨oc31, od31, .func (PySem.W.fnOf "turn" "Statement.turn" (defArgs s_Statement_turn) (defBody s_Statement_turn) (defScope s_Statement_turn) .none kV31 dc31 pm31 an31 cd31 ct31), sl31⟩)
    (c31 : PySem.W.codeIn K cd31 "Statement.turn" = true)
    (k31 : PySem.W.keepIn K (.ref f_Statement_turn) = true)
    (a32 : PySem.W.findIn K (.ref C_Statement) "is_parallel" = some (some (.ref f_Statement_is_parallel)))
    (i32 : PySem.W.isFn K (.ref f_Statement_is_parallel) = true)
    (l32 : K.lookup f_Statement_is_parallel = some ⟨oc32, od32, .func (PySem.W.fnOf "is_parallel" "Statement.is_parallel" (defArgs s_Statement_is_parallel) (defBody s_Statement_is_parallel) (defScope s_Statement_is_parallel) .none kV32 dc32 pm32 an32 cd32 ct32), sl32⟩)
    (c32 : PySem.W.codeIn K cd32 "Statement.is_parallel" = true)
    (k32 : PySem.W.keepIn K (.ref f_Statement_is_parallel) = true)
    (a33 : PySem.W.findIn K (.ref C_Statement) "is_counted" = some (some (.ref f_Statement_is_counted)))
    (i33 : PySem.W.isFn K (.ref f_Statement_is_counted) = true)
    (l33 : K.lookup f_Statement_is_counted = some ⟨oc33, od33, .func (PySem.W.fnOf "is_counted" "Statement.is_counted" (defArgs s_Statement_is_counted) (defBody s_Statement_is_counted) (defScope s_Statement_is_counted) .none kV33 dc33 pm33 an33 cd33 ct33), sl33⟩)
    (c33 : PySem.W.codeIn K cd33 "Statement.is_counted" = true)
    (k33 : PySem.W.keepIn K (.ref f_Statement_is_counted) = true)
    (a34 : PySem.W.findIn K (.ref C_Statement) "sent" = some (some (.ref f_Statement_sent)))
    (i34 : PySem.W.isFn K (.ref f_Statement_sent) = true)
    (l34 : K.lookup f_Statement_sent = some ⟨oc34, od34, .func (PySem.W.fnOf "sent" "Statement.sent" (defArgs s_Statement_sent) (defBody s_Statement_sent) (defScope s_Statement_sent) .none kV34 dc34 pm34 an34 cd34 ct34), sl34⟩)
    (c34 : PySem.W.codeIn K cd34 "Statement.sent" = true)
    (k34 : PySem.W.keepIn K (.ref f_Statement_sent) = true)
    (a35 : PySem.W.findIn K (.ref C_Statement) "sent_item" = some (some (.ref f_Statement_sent_item)))
    (i35 : PySem.W.isFn K (.ref f_Statement_sent_item) = true)
    (l35 : K.lookup f_Statement_sent_item = some ⟨oc35, od35, .func (PySem.W.fnOf "sent_item" "Statement.sent_item" (defArgs s_Statement_sent_item) (defBody s_Statement_sent_item) (defScope s_Statement_sent_item) .none kV35 dc35 pm35 an35 cd35 ct35), sl35⟩)
    (c35 : PySem.W.codeIn K cd35 "Statement.sent_item" = true)
    (k35 : PySem.W.keepIn K (.ref f_Statement_sent_item) = true)
    (a36 : PySem.W.findIn K (.ref C_Statement) "item_within" = some (some (.ref f_Statement_item_within)))
    (i36 : PySem.W.isFn K (.ref f_Statement_item_within) = true)
    (l36 : K.lookup f_Statement_item_within = some ⟨oc36, od36, .func (PySem.W.fnOf "item_within" "Statement.item_within" (defArgs s_Statement_item_within) (defBody s_Statement_item_within) (defScope s_Statement_item_within) .none kV36 dc36 pm36 an36 cd36 ct36), sl36⟩)
    (c36 : PySem.W.codeIn K cd36 "Statement.item_within" = true)
    (k36 : PySem.W.keepIn K (.ref f_Statement_item_within) = true)
    (a37 : PySem.W.findIn K (.ref C_Statement) "next_sent" = some (some (.ref f_Statement_next_sent)))
    (i37 : PySem.W.isFn K (.ref f_Statement_next_sent) = true)
    (l37 : K.lookup f_Statement_next_sent = some ⟨oc37, od37, .func (PySem.W.fnOf "next_sent" "Statement.next_sent" (defArgs s_Statement_next_sent) (defBody s_Statement_next_sent) (defScope s_Statement_next_sent) .none kV37 dc37 pm37 an37 cd37 ct37), sl37⟩)
    (c37 : PySem.W.codeIn K cd37 "Statement.next_sent" = true)
    (k37 : PySem.W.keepIn K (.ref f_Statement_next_sent) = true)
    (a38 : PySem.W.nsIn K mainGlobals "_law_pen" = some (some (.ref f__law_pen)))
    (l38 : K.lookup f__law_pen = some ⟨oc38, od38, .func (PySem.W.fnOf "_law_pen" "_law_pen" (defArgs s__law_pen) (defBody s__law_pen) (defScope s__law_pen) .none kV38 dc38 pm38 an38 cd38 ct38), sl38⟩)
    (c38 : PySem.W.codeIn K cd38 "_law_pen" = true)
    (k38 : PySem.W.keepIn K (.ref f__law_pen) = true)
    (a39 : PySem.W.nsIn K mainGlobals "_law_draw" = some (some (.ref f__law_draw)))
    (l39 : K.lookup f__law_draw = some ⟨oc39, od39, .func (PySem.W.fnOf "_law_draw" "_law_draw" (defArgs s__law_draw) (defBody s__law_draw) (defScope s__law_draw) .none kV39 dc39 pm39 an39 cd39 ct39), sl39⟩)
    (c39 : PySem.W.codeIn K cd39 "_law_draw" = true)
    (k39 : PySem.W.keepIn K (.ref f__law_draw) = true)
    (a40 : PySem.W.nsIn K mainGlobals "_law_pick" = some (some (.ref f__law_pick)))
    (l40 : K.lookup f__law_pick = some ⟨oc40, od40, .func (PySem.W.fnOf "_law_pick" "_law_pick" (defArgs s__law_pick) (defBody s__law_pick) (defScope s__law_pick) .none kV40 dc40 pm40 an40 cd40 ct40), sl40⟩)
    (c40 : PySem.W.codeIn K cd40 "_law_pick" = true)
    (k40 : PySem.W.keepIn K (.ref f__law_pick) = true)
    (a41 : PySem.W.nsIn K mainGlobals "_law_great" = some (some (.ref f__law_great)))
    (l41 : K.lookup f__law_great = some ⟨oc41, od41, .func (PySem.W.fnOf "_law_great" "_law_great" (defArgs s__law_great) (defBody s__law_great) (defScope s__law_great) .none kV41 dc41 pm41 an41 cd41 ct41), sl41⟩)
    (c41 : PySem.W.codeIn K cd41 "_law_great" = true)
    (k41 : PySem.W.keepIn K (.ref f__law_great) = true)
    (a42 : PySem.W.nsIn K mainGlobals "_law_factor" = some (some (.ref f__law_factor)))
    (l42 : K.lookup f__law_factor = some ⟨oc42, od42, .func (PySem.W.fnOf "_law_factor" "_law_factor" (defArgs s__law_factor) (defBody s__law_factor) (defScope s__law_factor) .none kV42 dc42 pm42 an42 cd42 ct42), sl42⟩)
    (c42 : PySem.W.codeIn K cd42 "_law_factor" = true)
    (k42 : PySem.W.keepIn K (.ref f__law_factor) = true)
    (a43 : PySem.W.nsIn K mainGlobals "_law_house" = some (some (.ref f__law_house)))
    (l43 : K.lookup f__law_house = some ⟨oc43, od43, .func (PySem.W.fnOf "_law_house" "_law_house" (defArgs s__law_house) (defBody s__law_house) (defScope s__law_house) .none kV43 dc43 pm43 an43 cd43 ct43), sl43⟩)
    (c43 : PySem.W.codeIn K cd43 "_law_house" = true)
    (k43 : PySem.W.keepIn K (.ref f__law_house) = true)
    (a44 : PySem.W.nsIn K mainGlobals "_law_course" = some (some (.ref f__law_course)))
    (l44 : K.lookup f__law_course = some ⟨oc44, od44, .func (PySem.W.fnOf "_law_course" "_law_course" (defArgs s__law_course) (defBody s__law_course) (defScope s__law_course) .none kV44 dc44 pm44 an44 cd44 ct44), sl44⟩)
    (c44 : PySem.W.codeIn K cd44 "_law_course" = true)
    (k44 : PySem.W.keepIn K (.ref f__law_course) = true)
    (a45 : PySem.W.nsIn K mainGlobals "_law_told" = some (some (.ref f__law_told)))
    (l45 : K.lookup f__law_told = some ⟨oc45, od45, .func (PySem.W.fnOf "_law_told" "_law_told" (defArgs s__law_told) (defBody s__law_told) (defScope s__law_told) .none kV45 dc45 pm45 an45 cd45 ct45), sl45⟩)
    (c45 : PySem.W.codeIn K cd45 "_law_told" = true)
    (k45 : PySem.W.keepIn K (.ref f__law_told) = true)
    (a46 : PySem.W.nsIn K mainGlobals "_law_sent" = some (some (.ref f__law_sent)))
    (l46 : K.lookup f__law_sent = some ⟨oc46, od46, .func (PySem.W.fnOf "_law_sent" "_law_sent" (defArgs s__law_sent) (defBody s__law_sent) (defScope s__law_sent) .none kV46 dc46 pm46 an46 cd46 ct46), sl46⟩)
    (c46 : PySem.W.codeIn K cd46 "_law_sent" = true)
    (k46 : PySem.W.keepIn K (.ref f__law_sent) = true)
    (a47 : PySem.W.nsIn K mainGlobals "_law_line" = some (some (.ref f__law_line)))
    (l47 : K.lookup f__law_line = some ⟨oc47, od47, .func (PySem.W.fnOf "_law_line" "_law_line" (defArgs s__law_line) (defBody s__law_line) (defScope s__law_line) .none kV47 dc47 pm47 an47 cd47 ct47), sl47⟩)
    (c47 : PySem.W.codeIn K cd47 "_law_line" = true)
    (k47 : PySem.W.keepIn K (.ref f__law_line) = true)
    (a48 : PySem.W.nsIn K mainGlobals "_law_lines" = some (some (.ref f__law_lines)))
    (l48 : K.lookup f__law_lines = some ⟨oc48, od48, .func (PySem.W.fnOf "_law_lines" "_law_lines" (defArgs s__law_lines) (defBody s__law_lines) (defScope s__law_lines) .none kV48 dc48 pm48 an48 cd48 ct48), sl48⟩)
    (c48 : PySem.W.codeIn K cd48 "_law_lines" = true)
    (k48 : PySem.W.keepIn K (.ref f__law_lines) = true)
    (a49 : PySem.W.nsIn K mainGlobals "_law_step_right" = some (some (.ref f__law_step_right)))
    (l49 : K.lookup f__law_step_right = some ⟨oc49, od49, .func (PySem.W.fnOf "_law_step_right" "_law_step_right" (defArgs s__law_step_right) (defBody s__law_step_right) (defScope s__law_step_right) .none kV49 dc49 pm49 an49 cd49 ct49), sl49⟩)
    (c49 : PySem.W.codeIn K cd49 "_law_step_right" = true)
    (k49 : PySem.W.keepIn K (.ref f__law_step_right) = true)
    (a50 : PySem.W.nsIn K mainGlobals "_law_near_right" = some (some (.ref f__law_near_right)))
    (l50 : K.lookup f__law_near_right = some ⟨oc50, od50, .func (PySem.W.fnOf "_law_near_right" "_law_near_right" (defArgs s__law_near_right) (defBody s__law_near_right) (defScope s__law_near_right) .none kV50 dc50 pm50 an50 cd50 ct50), sl50⟩)
    (c50 : PySem.W.codeIn K cd50 "_law_near_right" = true)
    (k50 : PySem.W.keepIn K (.ref f__law_near_right) = true)
    (a51 : PySem.W.nsIn K mainGlobals "_law_call" = some (some (.ref f__law_call)))
    (l51 : K.lookup f__law_call = some ⟨oc51, od51, .func (PySem.W.fnOf "_law_call" "_law_call" (defArgs s__law_call) (defBody s__law_call) (defScope s__law_call) .none kV51 dc51 pm51 an51 cd51 ct51), sl51⟩)
    (c51 : PySem.W.codeIn K cd51 "_law_call" = true)
    (k51 : PySem.W.keepIn K (.ref f__law_call) = true)
    (a52 : PySem.W.nsIn K mainGlobals "_law_refused_right" = some (some (.ref f__law_refused_right)))
    (l52 : K.lookup f__law_refused_right = some ⟨oc52, od52, .func (PySem.W.fnOf "_law_refused_right" "_law_refused_right" (defArgs s__law_refused_right) (defBody s__law_refused_right) (defScope s__law_refused_right) .none kV52 dc52 pm52 an52 (.ref cR52) ct52), sl52⟩)
    (c52 : PySem.W.codeIn K (.ref cR52) "_law_refused_right" = true)
    (lc52 : K.lookup cR52 = some ⟨cL52, dL52, .fields vL52, sL52⟩)
    (lp52 : vL52[11]? = some (.ref P52))
    (lh52 : PySem.W.codeHdIn K cR52 P52 = true)
    (ln52 : K.lookup P52 = none)
    (lt52 : h.get? P52 = some { cls := .none, data := .fields #[] })
    (k52 : PySem.W.keepIn K (.ref f__law_refused_right) = true)
    (a53 : PySem.W.nsIn K mainGlobals "law" = some (some (.ref f_law)))
    (l53 : K.lookup f_law = some ⟨oc53, od53, .func (PySem.W.fnOf "law" "law" (defArgs s_law) (defBody s_law) (defScope s_law) .none kV53 dc53 pm53 an53 cd53 ct53), sl53⟩)
    (c53 : PySem.W.codeIn K cd53 "law" = true)
    (k53 : PySem.W.keepIn K (.ref f_law) = true)
    (z_abs : PySem.W.nsIn K mainGlobals "abs" = some none)
    (z_bool : PySem.W.nsIn K mainGlobals "bool" = some none)
    (z_divmod : PySem.W.nsIn K mainGlobals "divmod" = some none)
    (z_int : PySem.W.nsIn K mainGlobals "int" = some none)
    (z_isinstance : PySem.W.nsIn K mainGlobals "isinstance" = some none)
    (z_len : PySem.W.nsIn K mainGlobals "len" = some none)
    (z_list : PySem.W.nsIn K mainGlobals "list" = some none)
    (z_max : PySem.W.nsIn K mainGlobals "max" = some none)
    (z_min : PySem.W.nsIn K mainGlobals "min" = some none)
    (z_range : PySem.W.nsIn K mainGlobals "range" = some none)
    (z_sum : PySem.W.nsIn K mainGlobals "sum" = some none)
    (z_super : PySem.W.nsIn K mainGlobals "super" = some none)
    (a0_NotTold : PySem.W.nsIn K mainGlobals "NotTold" = some (some (.ref C_NotTold)))
    (x0_NotTold : PySem.W.excIn K C_NotTold [.type "ValueError", .type "Exception", .type "BaseException", .type "object"] "ValueError.__new__" = true)
    (k0_NotTold : PySem.W.keepIn K (.ref C_NotTold) = true)
    (b0_NotTold : PySem.W.subIn K (.ref C_NotTold) (.type "BaseException") = some true)
    (t0_NotTold : PySem.W.typeIn K (.ref C_NotTold) = some (.type "type"))
    (e0_NotTold : PySem.W.exmOne K (.ref C_NotTold) (.ref C_NotTold) = some true)
    (xn2_Unlike : PySem.W.findIn K (.ref C_Unlike) "other" = some none)
    (en_BadValue_Unlike : PySem.W.exmOne K (.ref C_BadValue) (.ref C_Unlike) = some false)
    (en_BadValue_NotTold : PySem.W.exmOne K (.ref C_BadValue) (.ref C_NotTold) = some false)
    (en_NotTold_Unlike : PySem.W.exmOne K (.ref C_NotTold) (.ref C_Unlike) = some false)
    (oi_Course_int : PySem.W.kitOne K (.ref C_Course) (.type "int") = some false)
    (oi_Course_bool : PySem.W.kitOne K (.ref C_Course) (.type "bool") = some false)
    (oi_Course_str : PySem.W.kitOne K (.ref C_Course) (.type "str") = some false)
    (oi_Course_list : PySem.W.kitOne K (.ref C_Course) (.type "list") = some false)
    (oi_Course_tuple : PySem.W.kitOne K (.ref C_Course) (.type "tuple") = some false)
    (oi_Course_dict : PySem.W.kitOne K (.ref C_Course) (.type "dict") = some false)
    (is_Course_NoneType : PySem.W.kitOne K (.type "NoneType") (.ref C_Course) = some false)
    (is_Course_bool : PySem.W.kitOne K (.type "bool") (.ref C_Course) = some false)
    (is_Course_int : PySem.W.kitOne K (.type "int") (.ref C_Course) = some false)
    (is_Course_str : PySem.W.kitOne K (.type "str") (.ref C_Course) = some false)
    (is_Course_tuple : PySem.W.kitOne K (.type "tuple") (.ref C_Course) = some false)
    (is_Course_list : PySem.W.kitOne K (.type "list") (.ref C_Course) = some false)
    (is_Course_dict : PySem.W.kitOne K (.type "dict") (.ref C_Course) = some false)
    (ne_Course : PySem.W.findIn K (.ref C_Course) "__ne__" = some (some (.builtin "object.__ne__")))
    (oi_Statement_int : PySem.W.kitOne K (.ref C_Statement) (.type "int") = some false)
    (oi_Statement_bool : PySem.W.kitOne K (.ref C_Statement) (.type "bool") = some false)
    (oi_Statement_str : PySem.W.kitOne K (.ref C_Statement) (.type "str") = some false)
    (oi_Statement_list : PySem.W.kitOne K (.ref C_Statement) (.type "list") = some false)
    (oi_Statement_tuple : PySem.W.kitOne K (.ref C_Statement) (.type "tuple") = some false)
    (oi_Statement_dict : PySem.W.kitOne K (.ref C_Statement) (.type "dict") = some false)
    (is_Statement_NoneType : PySem.W.kitOne K (.type "NoneType") (.ref C_Statement) = some false)
    (is_Statement_bool : PySem.W.kitOne K (.type "bool") (.ref C_Statement) = some false)
    (is_Statement_int : PySem.W.kitOne K (.type "int") (.ref C_Statement) = some false)
    (is_Statement_str : PySem.W.kitOne K (.type "str") (.ref C_Statement) = some false)
    (is_Statement_tuple : PySem.W.kitOne K (.type "tuple") (.ref C_Statement) = some false)
    (is_Statement_list : PySem.W.kitOne K (.type "list") (.ref C_Statement) = some false)
    (is_Statement_dict : PySem.W.kitOne K (.type "dict") (.ref C_Statement) = some false)
    (ne_Statement : PySem.W.findIn K (.ref C_Statement) "__ne__" = some (some (.builtin "object.__ne__"))) :
    LamX.LawAtS PySem.Challenge.rw_dealtsums_k25_items_sent_below_a_length w K CX0 15 63 "_law_script" mg fa h := by
  have e := hfa.symm.trans (PySem.W.mg_of X G a53)
  cases e
  have bX_BadValue : Binds K (PySem.W.ksFn "__init__" "BadValue.__init__" (defArgs s_BadValue___init__) (defBody s_BadValue___init__) (defScope s_BadValue___init__) .none kV_BadValue dc_BadValue pm_BadValue an_BadValue (.ref cda_BadValue) ct_BadValue cc_BadValue) ["self", "value"] [] := Binds.all fun us hl => match us, hl with | [_, _], _ => rfl
  have bX_Unlike : Binds K (PySem.W.ksFn "__init__" "Unlike.__init__" (defArgs s_Unlike___init__) (defBody s_Unlike___init__) (defScope s_Unlike___init__) .none kV_Unlike dc_Unlike pm_Unlike an_Unlike (.ref cda_Unlike) ct_Unlike cc_Unlike) ["self", "one", "other"] [] := Binds.all fun us hl => match us, hl with | [_, _, _], _ => rfl
  have F0 := fun_mk (st := s_is_integer) l0 c0 k0
  have b0 := F0.binds (ps := ["value"]) fun _ _ _ _ _ _ us hl => match us, hl with | [_], _ => rfl
  have F1 := fun_mk (st := s_is_whole) l1 c1 k1
  have b1 := F1.binds (ps := ["value"]) fun _ _ _ _ _ _ us hl => match us, hl with | [_], _ => rfl
  have F2 := fun_mk (st := s_need_integer) l2 c2 k2
  have b2 := F2.binds (ps := ["value"]) fun _ _ _ _ _ _ us hl => match us, hl with | [_], _ => rfl
  have F3 := fun_mk (st := s_need_whole) l3 c3 k3
  have b3 := F3.binds (ps := ["value"]) fun _ _ _ _ _ _ us hl => match us, hl with | [_], _ => rfl
  have F4 := fun_mk (st := s_need_positive) l4 c4 k4
  have b4 := F4.binds (ps := ["value"]) fun _ _ _ _ _ _ us hl => match us, hl with | [_], _ => rfl
  have F5 := fun_mk (st := s_need_below) l5 c5 k5
  have b5 := F5.binds (ps := ["value", "bound"]) fun _ _ _ _ _ _ us hl => match us, hl with | [_, _], _ => rfl
  have F6 := fun_mk (st := s_common_factor) l6 c6 k6
  have b6 := F6.binds (ps := ["one", "other"]) fun _ _ _ _ _ _ us hl => match us, hl with | [_, _], _ => rfl
  have F7 := fun_mk (st := s_total_of) l7 c7 k7
  have b7 := F7.binds (ps := ["many", "run", "rise", "start"]) fun _ _ _ _ _ _ us hl => match us, hl with | [_, _, _, _], _ => rfl
  have F8 := fun_mk (st := s_count_in) l8 c8 k8
  have b8 := F8.binds (ps := ["many", "run", "rise", "start", "length"]) fun _ _ _ _ _ _ us hl => match us, hl with | [_, _, _, _, _], _ => rfl
  have F9 := fun_mk (st := s_folded) l9 c9 k9
  have b9 := F9.binds (ps := ["many", "top", "inner"]) fun _ _ _ _ _ _ us hl => match us, hl with | [_, _, _], _ => rfl
  have F10 := fun_mk (st := s_raised) l10 c10 k10
  have b10 := F10.binds (ps := ["many", "rise", "start", "sums"]) fun _ _ _ _ _ _ us hl => match us, hl with | [_, _, _, _], _ => rfl
  have F11 := fun_mk (st := s_sums_of) l11 c11 k11
  have b11 := F11.binds (ps := ["many", "run", "rise", "start"]) fun _ _ _ _ _ _ us hl => match us, hl with | [_, _, _, _], _ => rfl
  have F12 := fun_mk (st := s_floor_sums) l12 c12 k12
  have b12 := F12.binds (ps := ["many", "run", "rise", "start"]) fun _ _ _ _ _ _ us hl => match us, hl with | [_, _, _, _], _ => rfl
  have F13 := fun_mk (st := s_Course___init__) l13 c13 k13
  have b13 := F13.binds (ps := ["self", "houses", "start", "rise", "run"]) fun _ _ _ _ _ _ us hl => match us, hl with | [_, _, _, _, _], _ => rfl
  have F14 := fun_mk (st := s_Course___eq__) l14 c14 k14
  have b14 := F14.binds (ps := ["self", "other"]) fun _ _ _ _ _ _ us hl => match us, hl with | [_, _], _ => rfl
  have F15 := fun_mk (st := s_Course___call__) l15 c15 k15
  have b15 := F15.binds (ps := ["self", "k"]) fun _ _ _ _ _ _ us hl => match us, hl with | [_, _], _ => rfl
  have F16 := fun_mk (st := s_Course_marks) l16 c16 k16
  have b16 := F16.binds (ps := ["self"]) fun _ _ _ _ _ _ us hl => match us, hl with | [_], _ => rfl
  have F17 := fun_mk (st := s_Course_spacing) l17 c17 k17
  have b17 := F17.binds (ps := ["self"]) fun _ _ _ _ _ _ us hl => match us, hl with | [_], _ => rfl
  have F18 := fun_mk (st := s_Course_turn) l18 c18 k18
  have b18 := F18.binds (ps := ["self"]) fun _ _ _ _ _ _ us hl => match us, hl with | [_], _ => rfl
  have F19 := fun_mk (st := s_Course_counted) l19 c19 k19
  have b19 := F19.binds (ps := ["self", "house", "many"]) fun _ _ _ _ _ _ us hl => match us, hl with | [_, _, _], _ => rfl
  have F20 := fun_mk (st := s_Course_count) l20 c20 k20
  have b20 := F20.binds (ps := ["self", "house", "many"]) fun _ _ _ _ _ _ us hl => match us, hl with | [_, _, _], _ => rfl
  have F21 := fun_mk (st := s_is_level) l21 c21 k21
  have b21 := F21.binds (ps := ["one", "other"]) fun _ _ _ _ _ _ us hl => match us, hl with | [_, _], _ => rfl
  have F22 := fun_mk (st := s_is_opposite) l22 c22 k22
  have b22 := F22.binds (ps := ["one", "other"]) fun _ _ _ _ _ _ us hl => match us, hl with | [_, _], _ => rfl
  have F23 := fun_mk (st := s_marks_below) l23 c23 k23
  have b23 := F23.binds (ps := ["course", "many", "modulus", "low", "high"]) fun _ _ _ _ _ _ us hl => match us, hl with | [_, _, _, _, _], _ => rfl
  have F24 := fun_mk (st := s_sent_marks) l24 c24 k24
  have b24 := F24.binds (ps := ["target", "source"]) fun _ _ _ _ _ _ us hl => match us, hl with | [_, _], _ => rfl
  have F25 := fun_mk (st := s_halves) l25 c25 k25
  have b25 := F25.binds (ps := ["number", "houses"]) fun _ _ _ _ _ _ us hl => match us, hl with | [_, _], _ => rfl
  have F26 := fun_mk (st := s_kept_marks) l26 c26 k26
  have b26 := F26.binds (ps := ["target", "source"]) fun _ _ _ _ _ _ us hl => match us, hl with | [_, _], _ => rfl
  have F27 := fun_mk (st := s_sent_below) l27 c27 k27
  have b27 := F27.binds (ps := ["target", "source", "many"]) fun _ _ _ _ _ _ us hl => match us, hl with | [_, _, _], _ => rfl
  have F28 := fun_mk (st := s_Statement___init__) l28 c28 k28
  have b28 := F28.binds (ps := ["self", "target", "source"]) fun _ _ _ _ _ _ us hl => match us, hl with | [_, _, _], _ => rfl
  have F29 := fun_mk (st := s_Statement_is_silent) l29 c29 k29
  have b29 := F29.binds (ps := ["self"]) fun _ _ _ _ _ _ us hl => match us, hl with | [_], _ => rfl
  have F30 := fun_mk (st := s_Statement_need_counted) l30 c30 k30
  have b30 := F30.binds (ps := ["self"]) fun _ _ _ _ _ _ us hl => match us, hl with | [_], _ => rfl
  have F31 := fun_mk (st := s_Statement_turn) l31 c31 k31
  have b31 := F31.binds (ps := ["self"]) fun _ _ _ _ _ _ us hl => match us, hl with | [_], _ => rfl
  have F32 := fun_mk (st := s_Statement_is_parallel) l32 c32 k32
  have b32 := F32.binds (ps := ["self"]) fun _ _ _ _ _ _ us hl => match us, hl with | [_], _ => rfl
  have F33 := fun_mk (st := s_Statement_is_counted) l33 c33 k33
  have b33 := F33.binds (ps := ["self"]) fun _ _ _ _ _ _ us hl => match us, hl with | [_], _ => rfl
  have F34 := fun_mk (st := s_Statement_sent) l34 c34 k34
  have b34 := F34.binds (ps := ["self", "many"]) fun _ _ _ _ _ _ us hl => match us, hl with | [_, _], _ => rfl
  have F35 := fun_mk (st := s_Statement_sent_item) l35 c35 k35
  have b35 := F35.binds (ps := ["self", "number"]) fun _ _ _ _ _ _ us hl => match us, hl with | [_, _], _ => rfl
  have F36 := fun_mk (st := s_Statement_item_within) l36 c36 k36
  have b36 := F36.binds (ps := ["self", "turn", "each", "number"]) fun _ _ _ _ _ _ us hl => match us, hl with | [_, _, _, _], _ => rfl
  have F37 := fun_mk (st := s_Statement_next_sent) l37 c37 k37
  have b37 := F37.binds (ps := ["self", "k"]) fun _ _ _ _ _ _ us hl => match us, hl with | [_, _], _ => rfl
  have F38 := fun_mk (st := s__law_pen) l38 c38 k38
  have b38 := F38.binds (ps := ["_law_script"]) fun _ _ _ _ _ _ us hl => match us, hl with | [_], _ => rfl
  have F39 := fun_mk (st := s__law_draw) l39 c39 k39
  have b39 := F39.binds (ps := ["_law_pen_here", "_law_span"]) fun _ _ _ _ _ _ us hl => match us, hl with | [_, _], _ => rfl
  have F40 := fun_mk (st := s__law_pick) l40 c40 k40
  have b40 := F40.binds (ps := ["_law_pen_here", "_law_menu"]) fun _ _ _ _ _ _ us hl => match us, hl with | [_, _], _ => rfl
  have F41 := fun_mk (st := s__law_great) l41 c41 k41
  have b41 := F41.binds (ps := ["_law_pen_here", "_law_figures"]) fun _ _ _ _ _ _ us hl => match us, hl with | [_, _], _ => rfl
  have F42 := fun_mk (st := s__law_factor) l42 c42 k42
  have b42 := F42.binds (ps := ["_law_one", "_law_other"]) fun _ _ _ _ _ _ us hl => match us, hl with | [_, _], _ => rfl
  have F43 := fun_mk (st := s__law_house) l43 c43 k43
  have b43 := F43.binds (ps := ["_law_line_here", "_law_k"]) fun _ _ _ _ _ _ us hl => match us, hl with | [_, _], _ => rfl
  have F44 := fun_mk (st := s__law_course) l44 c44 k44
  have b44 := F44.binds (ps := ["_law_line_here"]) fun _ _ _ _ _ _ us hl => match us, hl with | [_], _ => rfl
  have F45 := fun_mk (st := s__law_told) l45 c45 k45
  have b45 := F45.binds (ps := ["_law_call_here"]) fun _ _ _ _ _ _ us hl => match us, hl with | [_], _ => rfl
  have F46 := fun_mk (st := s__law_sent) l46 c46 k46
  have b46 := F46.binds (ps := ["_law_one", "_law_other", "_law_k"]) fun _ _ _ _ _ _ us hl => match us, hl with | [_, _, _], _ => rfl
  have F47 := fun_mk (st := s__law_line) l47 c47 k47
  have b47 := F47.binds (ps := ["_law_pen_here", "_law_houses", "_law_far"]) fun _ _ _ _ _ _ us hl => match us, hl with | [_, _, _], _ => rfl
  have F48 := fun_mk (st := s__law_lines) l48 c48 k48
  have b48 := F48.binds (ps := ["_law_pen_here", "_law_far"]) fun _ _ _ _ _ _ us hl => match us, hl with | [_, _], _ => rfl
  have F49 := fun_mk (st := s__law_step_right) l49 c49 k49
  have b49 := F49.binds (ps := ["_law_pen_here", "_law_statement", "_law_one", "_law_other", "_law_k"]) fun _ _ _ _ _ _ us hl => match us, hl with | [_, _, _, _, _], _ => rfl
  have F50 := fun_mk (st := s__law_near_right) l50 c50 k50
  have b50 := F50.binds (ps := ["_law_statement", "_law_one", "_law_other"]) fun _ _ _ _ _ _ us hl => match us, hl with | [_, _, _], _ => rfl
  have F51 := fun_mk (st := s__law_call) l51 c51 k51
  have b51 := F51.binds (ps := ["_law_statement", "_law_which", "_law_k"]) fun _ _ _ _ _ _ us hl => match us, hl with | [_, _, _], _ => rfl
  have F52 := fun_mk (st := s__law_refused_right) l52 c52 k52
  have b52 := F52.binds (ps := ["_law_pen_here"]) fun _ _ _ _ _ _ us hl => match us, hl with | [_], _ => rfl
  have F53 := fun_mk (st := s_law) l53 c53 k53
  have b53 := F53.binds (ps := ["_law_script"]) fun _ _ _ _ _ _ us hl => match us, hl with | [_], _ => rfl
  let T : Tx w K mg := {
    C_BadValue := C_BadValue,
    f_BadValue___init__ := f_BadValue___init__,
    fd_BadValue___init__ := PySem.W.ksFn "__init__" "BadValue.__init__" (defArgs s_BadValue___init__) (defBody s_BadValue___init__) (defScope s_BadValue___init__) .none kV_BadValue dc_BadValue pm_BadValue an_BadValue (.ref cda_BadValue) ct_BadValue cc_BadValue,
    gC_BadValue := PySem.W.mg_of X G xC_BadValue,
    X_BadValue := ⟨⟨_, _, _, _, _, _, _, _, _, _, _, _, _, _, _, _, _, _, _, _, rfl, xl_BadValue, xc_BadValue, xd_BadValue, xv_BadValue, xf_BadValue, xe_BadValue, xk_BadValue⟩, xm_BadValue, PySem.W.mg_none_of X G z_super, xt_BadValue, xa_BadValue, xs_BadValue, xb_BadValue, ⟨⟨_, _, _, _, _, _, _, _, _, _, _, _, _, _, _, xo_BadValue, xr_BadValue⟩, xw_BadValue, xx_BadValue, xy_BadValue, xp_BadValue⟩, xn_BadValue, xi_BadValue, xj_BadValue⟩,
    bX_BadValue := bX_BadValue,
    xf_BadValue := ⟨xg_BadValue, xh_BadValue, xx_BadValue, xq_BadValue⟩,
    em_BadValue := xz_BadValue,
    C_Unlike := C_Unlike,
    f_Unlike___init__ := f_Unlike___init__,
    fd_Unlike___init__ := PySem.W.ksFn "__init__" "Unlike.__init__" (defArgs s_Unlike___init__) (defBody s_Unlike___init__) (defScope s_Unlike___init__) .none kV_Unlike dc_Unlike pm_Unlike an_Unlike (.ref cda_Unlike) ct_Unlike cc_Unlike,
    gC_Unlike := PySem.W.mg_of X G xC_Unlike,
    X_Unlike := ⟨⟨_, _, _, _, _, _, _, _, _, _, _, _, _, _, _, _, _, _, _, _, rfl, xl_Unlike, xc_Unlike, xd_Unlike, xv_Unlike, xf_Unlike, xe_Unlike, xk_Unlike⟩, xm_Unlike, PySem.W.mg_none_of X G z_super, xt_Unlike, xa_Unlike, xs_Unlike, xb_Unlike, ⟨⟨_, _, _, _, _, _, _, _, _, _, _, _, _, _, _, xo_Unlike, xr_Unlike⟩, xw_Unlike, xx_Unlike, xy_Unlike, xp_Unlike⟩, xn_Unlike, xi_Unlike, xj_Unlike⟩,
    bX_Unlike := bX_Unlike,
    xf_Unlike := ⟨xg_Unlike, xh_Unlike, xx_Unlike, xq_Unlike⟩,
    em_Unlike := xz_Unlike,
    C_Course := C_Course,
    cl_Course := ⟨pg_Course, hd_Course, po_Course, sa_Course⟩,
    gC_Course := PySem.W.mg_of X G aC_Course,
    n_Course_houses := n_Course_houses,
    n_Course_run := n_Course_run,
    n_Course_start := n_Course_start,
    n_Course_rise := n_Course_rise,
    C_Statement := C_Statement,
    cl_Statement := ⟨pg_Statement, hd_Statement, po_Statement, sa_Statement⟩,
    gC_Statement := PySem.W.mg_of X G aC_Statement,
    n_Statement_target := n_Statement_target,
    n_Statement_source := n_Statement_source,
    f_is_integer := f_is_integer,
    fd_is_integer := PySem.W.fnOf "is_integer" "is_integer" (defArgs s_is_integer) (defBody s_is_integer) (defScope s_is_integer) .none kV0 dc0 pm0 an0 cd0 ct0,
    F_is_integer := F0,
    b_is_integer := b0,
    g_is_integer := PySem.W.mg_of X G a0,
    f_is_whole := f_is_whole,
    fd_is_whole := PySem.W.fnOf "is_whole" "is_whole" (defArgs s_is_whole) (defBody s_is_whole) (defScope s_is_whole) .none kV1 dc1 pm1 an1 cd1 ct1,
    F_is_whole := F1,
    b_is_whole := b1,
    g_is_whole := PySem.W.mg_of X G a1,
    f_need_integer := f_need_integer,
    fd_need_integer := PySem.W.fnOf "need_integer" "need_integer" (defArgs s_need_integer) (defBody s_need_integer) (defScope s_need_integer) .none kV2 dc2 pm2 an2 cd2 ct2,
    F_need_integer := F2,
    b_need_integer := b2,
    g_need_integer := PySem.W.mg_of X G a2,
    f_need_whole := f_need_whole,
    fd_need_whole := PySem.W.fnOf "need_whole" "need_whole" (defArgs s_need_whole) (defBody s_need_whole) (defScope s_need_whole) .none kV3 dc3 pm3 an3 cd3 ct3,
    F_need_whole := F3,
    b_need_whole := b3,
    g_need_whole := PySem.W.mg_of X G a3,
    f_need_positive := f_need_positive,
    fd_need_positive := PySem.W.fnOf "need_positive" "need_positive" (defArgs s_need_positive) (defBody s_need_positive) (defScope s_need_positive) .none kV4 dc4 pm4 an4 cd4 ct4,
    F_need_positive := F4,
    b_need_positive := b4,
    g_need_positive := PySem.W.mg_of X G a4,
    f_need_below := f_need_below,
    fd_need_below := PySem.W.fnOf "need_below" "need_below" (defArgs s_need_below) (defBody s_need_below) (defScope s_need_below) .none kV5 dc5 pm5 an5 cd5 ct5,
    F_need_below := F5,
    b_need_below := b5,
    g_need_below := PySem.W.mg_of X G a5,
    f_common_factor := f_common_factor,
    fd_common_factor := PySem.W.fnOf "common_factor" "common_factor" (defArgs s_common_factor) (defBody s_common_factor) (defScope s_common_factor) .none kV6 dc6 pm6 an6 cd6 ct6,
    F_common_factor := F6,
    b_common_factor := b6,
    g_common_factor := PySem.W.mg_of X G a6,
    f_total_of := f_total_of,
    fd_total_of := PySem.W.fnOf "total_of" "total_of" (defArgs s_total_of) (defBody s_total_of) (defScope s_total_of) .none kV7 dc7 pm7 an7 cd7 ct7,
    F_total_of := F7,
    b_total_of := b7,
    g_total_of := PySem.W.mg_of X G a7,
    f_count_in := f_count_in,
    fd_count_in := PySem.W.fnOf "count_in" "count_in" (defArgs s_count_in) (defBody s_count_in) (defScope s_count_in) .none kV8 dc8 pm8 an8 cd8 ct8,
    F_count_in := F8,
    b_count_in := b8,
    g_count_in := PySem.W.mg_of X G a8,
    f_folded := f_folded,
    fd_folded := PySem.W.fnOf "folded" "folded" (defArgs s_folded) (defBody s_folded) (defScope s_folded) .none kV9 dc9 pm9 an9 cd9 ct9,
    F_folded := F9,
    b_folded := b9,
    g_folded := PySem.W.mg_of X G a9,
    f_raised := f_raised,
    fd_raised := PySem.W.fnOf "raised" "raised" (defArgs s_raised) (defBody s_raised) (defScope s_raised) .none kV10 dc10 pm10 an10 cd10 ct10,
    F_raised := F10,
    b_raised := b10,
    g_raised := PySem.W.mg_of X G a10,
    f_sums_of := f_sums_of,
    fd_sums_of := PySem.W.fnOf "sums_of" "sums_of" (defArgs s_sums_of) (defBody s_sums_of) (defScope s_sums_of) .none kV11 dc11 pm11 an11 cd11 ct11,
    F_sums_of := F11,
    b_sums_of := b11,
    g_sums_of := PySem.W.mg_of X G a11,
    f_floor_sums := f_floor_sums,
    fd_floor_sums := PySem.W.fnOf "floor_sums" "floor_sums" (defArgs s_floor_sums) (defBody s_floor_sums) (defScope s_floor_sums) .none kV12 dc12 pm12 an12 cd12 ct12,
    F_floor_sums := F12,
    b_floor_sums := b12,
    g_floor_sums := PySem.W.mg_of X G a12,
    f_Course___init__ := f_Course___init__,
    fd_Course___init__ := PySem.W.fnOf "__init__" "Course.__init__" (defArgs s_Course___init__) (defBody s_Course___init__) (defScope s_Course___init__) .none kV13 dc13 pm13 an13 cd13 ct13,
    F_Course___init__ := F13,
    b_Course___init__ := b13,
    M_Course := ⟨mk_Course, a13, i13, kc_Course⟩,
    f_Course___eq__ := f_Course___eq__,
    fd_Course___eq__ := PySem.W.fnOf "__eq__" "Course.__eq__" (defArgs s_Course___eq__) (defBody s_Course___eq__) (defScope s_Course___eq__) .none kV14 dc14 pm14 an14 cd14 ct14,
    F_Course___eq__ := F14,
    b_Course___eq__ := b14,
    m_Course___eq__ := ⟨a14, i14, k14⟩,
    f_Course___call__ := f_Course___call__,
    fd_Course___call__ := PySem.W.fnOf "__call__" "Course.__call__" (defArgs s_Course___call__) (defBody s_Course___call__) (defScope s_Course___call__) .none kV15 dc15 pm15 an15 cd15 ct15,
    F_Course___call__ := F15,
    b_Course___call__ := b15,
    m_Course___call__ := ⟨a15, i15, k15⟩,
    f_Course_marks := f_Course_marks,
    fd_Course_marks := PySem.W.fnOf "marks" "Course.marks" (defArgs s_Course_marks) (defBody s_Course_marks) (defScope s_Course_marks) .none kV16 dc16 pm16 an16 cd16 ct16,
    F_Course_marks := F16,
    b_Course_marks := b16,
    m_Course_marks := ⟨a16, i16, k16⟩,
    f_Course_spacing := f_Course_spacing,
    fd_Course_spacing := PySem.W.fnOf "spacing" "Course.spacing" (defArgs s_Course_spacing) (defBody s_Course_spacing) (defScope s_Course_spacing) .none kV17 dc17 pm17 an17 cd17 ct17,
    F_Course_spacing := F17,
    b_Course_spacing := b17,
    m_Course_spacing := ⟨a17, i17, k17⟩,
    f_Course_turn := f_Course_turn,
    fd_Course_turn := PySem.W.fnOf "turn" "Course.turn" (defArgs s_Course_turn) (defBody s_Course_turn) (defScope s_Course_turn) .none kV18 dc18 pm18 an18 cd18 ct18,
    F_Course_turn := F18,
    b_Course_turn := b18,
    m_Course_turn := ⟨a18, i18, k18⟩,
    f_Course_counted := f_Course_counted,
    fd_Course_counted := PySem.W.fnOf "counted" "Course.counted" (defArgs s_Course_counted) (defBody s_Course_counted) (defScope s_Course_counted) .none kV19 dc19 pm19 an19 cd19 ct19,
    F_Course_counted := F19,
    b_Course_counted := b19,
    m_Course_counted := ⟨a19, i19, k19⟩,
    f_Course_count := f_Course_count,
    fd_Course_count := PySem.W.fnOf "count" "Course.count" (defArgs s_Course_count) (defBody s_Course_count) (defScope s_Course_count) .none kV20 dc20 pm20 an20 cd20 ct20,
    F_Course_count := F20,
    b_Course_count := b20,
    m_Course_count := ⟨a20, i20, k20⟩,
    f_is_level := f_is_level,
    fd_is_level := PySem.W.fnOf "is_level" "is_level" (defArgs s_is_level) (defBody s_is_level) (defScope s_is_level) .none kV21 dc21 pm21 an21 cd21 ct21,
    F_is_level := F21,
    b_is_level := b21,
    g_is_level := PySem.W.mg_of X G a21,
    f_is_opposite := f_is_opposite,
    fd_is_opposite := PySem.W.fnOf "is_opposite" "is_opposite" (defArgs s_is_opposite) (defBody s_is_opposite) (defScope s_is_opposite) .none kV22 dc22 pm22 an22 cd22 ct22,
    F_is_opposite := F22,
    b_is_opposite := b22,
    g_is_opposite := PySem.W.mg_of X G a22,
    f_marks_below := f_marks_below,
    fd_marks_below := PySem.W.fnOf "marks_below" "marks_below" (defArgs s_marks_below) (defBody s_marks_below) (defScope s_marks_below) .none kV23 dc23 pm23 an23 cd23 ct23,
    F_marks_below := F23,
    b_marks_below := b23,
    g_marks_below := PySem.W.mg_of X G a23,
    f_sent_marks := f_sent_marks,
    fd_sent_marks := PySem.W.fnOf "sent_marks" "sent_marks" (defArgs s_sent_marks) (defBody s_sent_marks) (defScope s_sent_marks) .none kV24 dc24 pm24 an24 cd24 ct24,
    F_sent_marks := F24,
    b_sent_marks := b24,
    g_sent_marks := PySem.W.mg_of X G a24,
    f_halves := f_halves,
    fd_halves := PySem.W.fnOf "halves" "halves" (defArgs s_halves) (defBody s_halves) (defScope s_halves) .none kV25 dc25 pm25 an25 cd25 ct25,
    F_halves := F25,
    b_halves := b25,
    g_halves := PySem.W.mg_of X G a25,
    f_kept_marks := f_kept_marks,
    fd_kept_marks := PySem.W.fnOf "kept_marks" "kept_marks" (defArgs s_kept_marks) (defBody s_kept_marks) (defScope s_kept_marks) .none kV26 dc26 pm26 an26 cd26 ct26,
    F_kept_marks := F26,
    b_kept_marks := b26,
    g_kept_marks := PySem.W.mg_of X G a26,
    f_sent_below := f_sent_below,
    fd_sent_below := PySem.W.fnOf "sent_below" "sent_below" (defArgs s_sent_below) (defBody s_sent_below) (defScope s_sent_below) .none kV27 dc27 pm27 an27 cd27 ct27,
    F_sent_below := F27,
    b_sent_below := b27,
    g_sent_below := PySem.W.mg_of X G a27,
    f_Statement___init__ := f_Statement___init__,
    fd_Statement___init__ := PySem.W.fnOf "__init__" "Statement.__init__" (defArgs s_Statement___init__) (defBody s_Statement___init__) (defScope s_Statement___init__) .none kV28 dc28 pm28 an28 cd28 ct28,
    F_Statement___init__ := F28,
    b_Statement___init__ := b28,
    M_Statement := ⟨mk_Statement, a28, i28, kc_Statement⟩,
    f_Statement_is_silent := f_Statement_is_silent,
    fd_Statement_is_silent := PySem.W.fnOf "is_silent" "Statement.is_silent" (defArgs s_Statement_is_silent) (defBody s_Statement_is_silent) (defScope s_Statement_is_silent) .none kV29 dc29 pm29 an29 cd29 ct29,
    F_Statement_is_silent := F29,
    b_Statement_is_silent := b29,
    m_Statement_is_silent := ⟨a29, i29, k29⟩,
    f_Statement_need_counted := f_Statement_need_counted,
    fd_Statement_need_counted := PySem.W.fnOf "need_counted" "Statement.need_counted" (defArgs s_Statement_need_counted) (defBody s_Statement_need_counted) (defScope s_Statement_need_counted) .none kV30 dc30 pm30 an30 cd30 ct30,
    F_Statement_need_counted := F30,
    b_Statement_need_counted := b30,
    m_Statement_need_counted := ⟨a30, i30, k30⟩,
    f_Statement_turn := f_Statement_turn,
    fd_Statement_turn := PySem.W.fnOf "turn" "Statement.turn" (defArgs s_Statement_turn) (defBody s_Statement_turn) (defScope s_Statement_turn) .none kV31 dc31 pm31 an31 cd31 ct31,
    F_Statement_turn := F31,
    b_Statement_turn := b31,
    m_Statement_turn := ⟨a31, i31, k31⟩,
    f_Statement_is_parallel := f_Statement_is_parallel,
    fd_Statement_is_parallel := PySem.W.fnOf "is_parallel" "Statement.is_parallel" (defArgs s_Statement_is_parallel) (defBody s_Statement_is_parallel) (defScope s_Statement_is_parallel) .none kV32 dc32 pm32 an32 cd32 ct32,
    F_Statement_is_parallel := F32,
    b_Statement_is_parallel := b32,
    m_Statement_is_parallel := ⟨a32, i32, k32⟩,
    f_Statement_is_counted := f_Statement_is_counted,
    fd_Statement_is_counted := PySem.W.fnOf "is_counted" "Statement.is_counted" (defArgs s_Statement_is_counted) (defBody s_Statement_is_counted) (defScope s_Statement_is_counted) .none kV33 dc33 pm33 an33 cd33 ct33,
    F_Statement_is_counted := F33,
    b_Statement_is_counted := b33,
    m_Statement_is_counted := ⟨a33, i33, k33⟩,
    f_Statement_sent := f_Statement_sent,
    fd_Statement_sent := PySem.W.fnOf "sent" "Statement.sent" (defArgs s_Statement_sent) (defBody s_Statement_sent) (defScope s_Statement_sent) .none kV34 dc34 pm34 an34 cd34 ct34,
    F_Statement_sent := F34,
    b_Statement_sent := b34,
    m_Statement_sent := ⟨a34, i34, k34⟩,
    f_Statement_sent_item := f_Statement_sent_item,
    fd_Statement_sent_item := PySem.W.fnOf "sent_item" "Statement.sent_item" (defArgs s_Statement_sent_item) (defBody s_Statement_sent_item) (defScope s_Statement_sent_item) .none kV35 dc35 pm35 an35 cd35 ct35,
    F_Statement_sent_item := F35,
    b_Statement_sent_item := b35,
    m_Statement_sent_item := ⟨a35, i35, k35⟩,
    f_Statement_item_within := f_Statement_item_within,
    fd_Statement_item_within := PySem.W.fnOf "item_within" "Statement.item_within" (defArgs s_Statement_item_within) (defBody s_Statement_item_within) (defScope s_Statement_item_within) .none kV36 dc36 pm36 an36 cd36 ct36,
    F_Statement_item_within := F36,
    b_Statement_item_within := b36,
    m_Statement_item_within := ⟨a36, i36, k36⟩,
    f_Statement_next_sent := f_Statement_next_sent,
    fd_Statement_next_sent := PySem.W.fnOf "next_sent" "Statement.next_sent" (defArgs s_Statement_next_sent) (defBody s_Statement_next_sent) (defScope s_Statement_next_sent) .none kV37 dc37 pm37 an37 cd37 ct37,
    F_Statement_next_sent := F37,
    b_Statement_next_sent := b37,
    m_Statement_next_sent := ⟨a37, i37, k37⟩,
    f__law_pen := f__law_pen,
    fd__law_pen := PySem.W.fnOf "_law_pen" "_law_pen" (defArgs s__law_pen) (defBody s__law_pen) (defScope s__law_pen) .none kV38 dc38 pm38 an38 cd38 ct38,
    F__law_pen := F38,
    b__law_pen := b38,
    g__law_pen := PySem.W.mg_of X G a38,
    f__law_draw := f__law_draw,
    fd__law_draw := PySem.W.fnOf "_law_draw" "_law_draw" (defArgs s__law_draw) (defBody s__law_draw) (defScope s__law_draw) .none kV39 dc39 pm39 an39 cd39 ct39,
    F__law_draw := F39,
    b__law_draw := b39,
    g__law_draw := PySem.W.mg_of X G a39,
    f__law_pick := f__law_pick,
    fd__law_pick := PySem.W.fnOf "_law_pick" "_law_pick" (defArgs s__law_pick) (defBody s__law_pick) (defScope s__law_pick) .none kV40 dc40 pm40 an40 cd40 ct40,
    F__law_pick := F40,
    b__law_pick := b40,
    g__law_pick := PySem.W.mg_of X G a40,
    f__law_great := f__law_great,
    fd__law_great := PySem.W.fnOf "_law_great" "_law_great" (defArgs s__law_great) (defBody s__law_great) (defScope s__law_great) .none kV41 dc41 pm41 an41 cd41 ct41,
    F__law_great := F41,
    b__law_great := b41,
    g__law_great := PySem.W.mg_of X G a41,
    f__law_factor := f__law_factor,
    fd__law_factor := PySem.W.fnOf "_law_factor" "_law_factor" (defArgs s__law_factor) (defBody s__law_factor) (defScope s__law_factor) .none kV42 dc42 pm42 an42 cd42 ct42,
    F__law_factor := F42,
    b__law_factor := b42,
    g__law_factor := PySem.W.mg_of X G a42,
    f__law_house := f__law_house,
    fd__law_house := PySem.W.fnOf "_law_house" "_law_house" (defArgs s__law_house) (defBody s__law_house) (defScope s__law_house) .none kV43 dc43 pm43 an43 cd43 ct43,
    F__law_house := F43,
    b__law_house := b43,
    g__law_house := PySem.W.mg_of X G a43,
    f__law_course := f__law_course,
    fd__law_course := PySem.W.fnOf "_law_course" "_law_course" (defArgs s__law_course) (defBody s__law_course) (defScope s__law_course) .none kV44 dc44 pm44 an44 cd44 ct44,
    F__law_course := F44,
    b__law_course := b44,
    g__law_course := PySem.W.mg_of X G a44,
    f__law_told := f__law_told,
    fd__law_told := PySem.W.fnOf "_law_told" "_law_told" (defArgs s__law_told) (defBody s__law_told) (defScope s__law_told) .none kV45 dc45 pm45 an45 cd45 ct45,
    F__law_told := F45,
    b__law_told := b45,
    g__law_told := PySem.W.mg_of X G a45,
    f__law_sent := f__law_sent,
    fd__law_sent := PySem.W.fnOf "_law_sent" "_law_sent" (defArgs s__law_sent) (defBody s__law_sent) (defScope s__law_sent) .none kV46 dc46 pm46 an46 cd46 ct46,
    F__law_sent := F46,
    b__law_sent := b46,
    g__law_sent := PySem.W.mg_of X G a46,
    f__law_line := f__law_line,
    fd__law_line := PySem.W.fnOf "_law_line" "_law_line" (defArgs s__law_line) (defBody s__law_line) (defScope s__law_line) .none kV47 dc47 pm47 an47 cd47 ct47,
    F__law_line := F47,
    b__law_line := b47,
    g__law_line := PySem.W.mg_of X G a47,
    f__law_lines := f__law_lines,
    fd__law_lines := PySem.W.fnOf "_law_lines" "_law_lines" (defArgs s__law_lines) (defBody s__law_lines) (defScope s__law_lines) .none kV48 dc48 pm48 an48 cd48 ct48,
    F__law_lines := F48,
    b__law_lines := b48,
    g__law_lines := PySem.W.mg_of X G a48,
    f__law_step_right := f__law_step_right,
    fd__law_step_right := PySem.W.fnOf "_law_step_right" "_law_step_right" (defArgs s__law_step_right) (defBody s__law_step_right) (defScope s__law_step_right) .none kV49 dc49 pm49 an49 cd49 ct49,
    F__law_step_right := F49,
    b__law_step_right := b49,
    g__law_step_right := PySem.W.mg_of X G a49,
    f__law_near_right := f__law_near_right,
    fd__law_near_right := PySem.W.fnOf "_law_near_right" "_law_near_right" (defArgs s__law_near_right) (defBody s__law_near_right) (defScope s__law_near_right) .none kV50 dc50 pm50 an50 cd50 ct50,
    F__law_near_right := F50,
    b__law_near_right := b50,
    g__law_near_right := PySem.W.mg_of X G a50,
    f__law_call := f__law_call,
    fd__law_call := PySem.W.fnOf "_law_call" "_law_call" (defArgs s__law_call) (defBody s__law_call) (defScope s__law_call) .none kV51 dc51 pm51 an51 cd51 ct51,
    F__law_call := F51,
    b__law_call := b51,
    g__law_call := PySem.W.mg_of X G a51,
    c__law_refused_right := cR52,
    P__law_refused_right := P52,
    FC__law_refused_right := ⟨_, _, _, _, _, _, _, _, rfl, l52, c52⟩,
    f__law_refused_right := f__law_refused_right,
    fd__law_refused_right := PySem.W.fnOf "_law_refused_right" "_law_refused_right" (defArgs s__law_refused_right) (defBody s__law_refused_right) (defScope s__law_refused_right) .none kV52 dc52 pm52 an52 (.ref cR52) ct52,
    F__law_refused_right := F52,
    b__law_refused_right := b52,
    g__law_refused_right := PySem.W.mg_of X G a52,
    f_law := fa,
    fd_law := PySem.W.fnOf "law" "law" (defArgs s_law) (defBody s_law) (defScope s_law) .none kV53 dc53 pm53 an53 cd53 ct53,
    F_law := F53,
    b_law := b53,
    g_law := PySem.W.mg_of X G a53,
    z_abs := PySem.W.mg_none_of X G z_abs,
    z_bool := PySem.W.mg_none_of X G z_bool,
    z_divmod := PySem.W.mg_none_of X G z_divmod,
    z_int := PySem.W.mg_none_of X G z_int,
    z_isinstance := PySem.W.mg_none_of X G z_isinstance,
    z_len := PySem.W.mg_none_of X G z_len,
    z_list := PySem.W.mg_none_of X G z_list,
    z_max := PySem.W.mg_none_of X G z_max,
    z_min := PySem.W.mg_none_of X G z_min,
    z_range := PySem.W.mg_none_of X G z_range,
    z_sum := PySem.W.mg_none_of X G z_sum,
    C_NotTold := C_NotTold,
    gC_NotTold := PySem.W.mg_of X G a0_NotTold,
    x0_NotTold := x0_NotTold,
    k0_NotTold := k0_NotTold,
    b0_NotTold := b0_NotTold,
    t0_NotTold := t0_NotTold,
    em_NotTold := e0_NotTold,
    xn2_Unlike := xn2_Unlike,
    en_BadValue_Unlike := en_BadValue_Unlike,
    en_BadValue_NotTold := en_BadValue_NotTold,
    en_NotTold_Unlike := en_NotTold_Unlike,
    oc_Course := ⟨⟨pg_Course, hd_Course, po_Course, sa_Course⟩, tya_Course, tyb_Course, tyc_Course, tyd_Course, oi_Course_int, oi_Course_bool, oi_Course_str, oi_Course_list, oi_Course_tuple, oi_Course_dict⟩,
    ic_Course := ⟨by unfold PySem.W.kitOne; rw [if_pos (by simp)], is_Course_NoneType, is_Course_bool, is_Course_int, is_Course_str, is_Course_tuple, is_Course_list, is_Course_dict⟩,
    ne_Course := ne_Course,
    mo_Course := tyd_Course,
    oc_Statement := ⟨⟨pg_Statement, hd_Statement, po_Statement, sa_Statement⟩, tya_Statement, tyb_Statement, tyc_Statement, tyd_Statement, oi_Statement_int, oi_Statement_bool, oi_Statement_str, oi_Statement_list, oi_Statement_tuple, oi_Statement_dict⟩,
    ic_Statement := ⟨by unfold PySem.W.kitOne; rw [if_pos (by simp)], is_Statement_NoneType, is_Statement_bool, is_Statement_int, is_Statement_str, is_Statement_tuple, is_Statement_list, is_Statement_dict⟩,
    ne_Statement := ne_Statement,
    mo_Statement := tyd_Statement }
  refine ⟨T.fd_law, [(cR52, P52)], spLaw K T, ?_, ?_, ?_, fun s v => .of_eq rfl, fun H a ns hl hb ht hs => ?_, fun base _ _ tb => ?_⟩
  · intro p hp
    obtain rfl := List.mem_singleton.mp hp
    exact lt52
  · intro p hp
    obtain rfl := List.mem_singleton.mp hp
    exact ln52
  · intro p hp
    obtain rfl := List.mem_singleton.mp hp
    exact PySem.W.codeHd_of_K X lh52
  · exact spLaw_of T hl hs (ht (cR52, P52) (by simp))
  · exact ok_law0 T (tb (cR52, P52) (by simp))
end K25
open PySem PySem.W PyProof.Rows
theorem kx_in_of {K : Params → Frag} {as ts : List Addr} {e : ∀ P, as ++ ts = ((KX.kts K ts) P).map (·.1)} {w : World} {h : Heap} (Y : (kHook (KX.kts K ts) (as ++ ts) e).says w h) : (K w.params).In h := fun a o l => by
  refine Y a o ?_
  show List.lookup _ (K w.params ++ ts.map fun p => (p, tabObj #[])) = _
  rw [List.lookup_append, l]
  rfl
theorem kx_tabs_of {K : Params → Frag} {as ts : List Addr} {e : ∀ P, as ++ ts = ((KX.kts K ts) P).map (·.1)} {w : World} {h : Heap} (Y : (kHook (KX.kts K ts) (as ++ ts) e).says w h) (P : Addr) (hP : P ∈ ts) (hK : (K w.params).lookup P = none) : h.get? P = some (tabObj #[]) := by
  refine Y P _ ?_
  show List.lookup _ (K w.params ++ ts.map fun p => (p, tabObj #[])) = _
  rw [List.lookup_append, hK, Option.none_or]
  clear Y hK e
  induction ts with
  | nil => cases hP
  | cons a r ih =>
    rw [List.map_cons, List.lookup_cons]
    by_cases c : P = a
    · subst c
      rw [beq_self_eq_true]
    · rw [show (P == a) = false from beq_false_of_ne c]
      rcases List.mem_cons.mp hP with z | z
      · exact absurd z c
      · exact ih z
set_option maxHeartbeats 0 in
theorem PySem.Challenge.cw_dealtsums_k25_items_sent_below_a_length_holds : PySem.Challenge.rw_dealtsums_k25_items_sent_below_a_length.Holds := by
  refine KX.pre.go KX.run ?_
  delta KX.pre
  dsimp only
  k_fill
  refine LamX.walk_ofTs (l := PySem.Challenge.rw_dealtsums_k25_items_sent_below_a_length) (n := 63) (k := 15) (x := "_law_script") (CX := fun _ => L2.CX0) rfl (by decide) rfl ⟨rfl, by decide, by decide⟩ (fun w h Y => kx_in_of Y) ?F (fun _ _ _ _ _ h => h)
  case F =>
    intro w mg fa h Y KX G hmg
    refine' K25.all_mk KX G hmg ?xC_BadValue ?xi_BadValue ?xl_BadValue ?xc_BadValue ?xd_BadValue ?xv_BadValue ?xf_BadValue ?xe_BadValue ?xk_BadValue ?xm_BadValue ?xt_BadValue ?xa_BadValue ?xs_BadValue ?xb_BadValue ?xo_BadValue ?xr_BadValue ?xw_BadValue ?xx_BadValue ?xy_BadValue ?xp_BadValue ?xn_BadValue ?xj_BadValue ?xg_BadValue ?xh_BadValue ?xq_BadValue ?xz_BadValue ?xC_Unlike ?xi_Unlike ?xl_Unlike ?xc_Unlike ?xd_Unlike ?xv_Unlike ?xf_Unlike ?xe_Unlike ?xk_Unlike ?xm_Unlike ?xt_Unlike ?xa_Unlike ?xs_Unlike ?xb_Unlike ?xo_Unlike ?xr_Unlike ?xw_Unlike ?xx_Unlike ?xy_Unlike ?xp_Unlike ?xn_Unlike ?xj_Unlike ?xg_Unlike ?xh_Unlike ?xq_Unlike ?xz_Unlike ?aC_Course ?pg_Course ?hd_Course ?po_Course ?sa_Course ?mk_Course ?kc_Course ?tya_Course ?tyb_Course ?tyc_Course ?tyd_Course ?n_Course_houses ?n_Course_run ?n_Course_start ?n_Course_rise ?aC_Statement ?pg_Statement ?hd_Statement ?po_Statement ?sa_Statement ?mk_Statement ?kc_Statement ?tya_Statement ?tyb_Statement ?tyc_Statement ?tyd_Statement ?n_Statement_target ?n_Statement_source ?a0 ?l0 ?c0 ?k0 ?a1 ?l1 ?c1 ?k1 ?a2 ?l2 ?c2 ?k2 ?a3 ?l3 ?c3 ?k3 ?a4 ?l4 ?c4 ?k4 ?a5 ?l5 ?c5 ?k5 ?a6 ?l6 ?c6 ?k6 ?a7 ?l7 ?c7 ?k7 ?a8 ?l8 ?c8 ?k8 ?a9 ?l9 ?c9 ?k9 ?a10 ?l10 ?c10 ?k10 ?a11 ?l11 ?c11 ?k11 ?a12 ?l12 ?c12 ?k12 ?a13 ?i13 ?l13 ?c13 ?k13 ?a14 ?i14 ?l14 ?c14 ?k14 ?a15 ?i15 ?l15 ?c15 ?k15 ?a16 ?i16 ?l16 ?c16 ?k16 ?a17 ?i17 ?l17 ?c17 ?k17 ?a18 ?i18 ?l18 ?c18 ?k18 ?a19 ?i19 ?l19 ?c19 ?k19 ?a20 ?i20 ?l20 ?c20 ?k20 ?a21 ?l21 ?c21 ?k21 ?a22 ?l22 ?c22 ?k22 ?a23 ?l23 ?c23 ?k23 ?a24 ?l24 ?c24 ?k24 ?a25 ?l25 ?c25 ?k25 ?a26 ?l26 ?c26 ?k26 ?a27 ?l27 ?c27 ?k27 ?a28 ?i28 ?l28 ?c28 ?k28 ?a29 ?i29 ?l29 ?c29 ?k29 ?a30 ?i30 ?l30 ?c30 ?k30 ?a31 ?i31 ?l31 ?c31 ?k31 ?a32 ?i32 ?l32 ?c32 ?k32 ?a33 ?i33 ?l33 ?c33 ?k33 ?a34 ?i34 ?l34 ?c34 ?k34 ?a35 ?i35 ?l35 ?c35 ?k35 ?a36 ?i36 ?l36 ?c36 ?k36 ?a37 ?i37 ?l37 ?c37 ?k37 ?a38 ?l38 ?c38 ?k38 ?a39 ?l39 ?c39 ?k39 ?a40 ?l40 ?c40 ?k40 ?a41 ?l41 ?c41 ?k41 ?a42 ?l42 ?c42 ?k42 ?a43 ?l43 ?c43 ?k43 ?a44 ?l44 ?c44 ?k44 ?a45 ?l45 ?c45 ?k45 ?a46 ?l46 ?c46 ?k46 ?a47 ?l47 ?c47 ?k47 ?a48 ?l48 ?c48 ?k48 ?a49 ?l49 ?c49 ?k49 ?a50 ?l50 ?c50 ?k50 ?a51 ?l51 ?c51 ?k51 ?a52 ?l52 ?c52 ?lc52 ?lp52 ?lh52 ?ln52 ?lt52 ?k52 ?a53 ?l53 ?c53 ?k53 ?z_abs ?z_bool ?z_divmod ?z_int ?z_isinstance ?z_len ?z_list ?z_max ?z_min ?z_range ?z_sum ?z_super ?a0_NotTold ?x0_NotTold ?k0_NotTold ?b0_NotTold ?t0_NotTold ?e0_NotTold ?xn2_Unlike ?en_BadValue_Unlike ?en_BadValue_NotTold ?en_NotTold_Unlike ?oi_Course_int ?oi_Course_bool ?oi_Course_str ?oi_Course_list ?oi_Course_tuple ?oi_Course_dict ?is_Course_NoneType ?is_Course_bool ?is_Course_int ?is_Course_str ?is_Course_tuple ?is_Course_list ?is_Course_dict ?ne_Course ?oi_Statement_int ?oi_Statement_bool ?oi_Statement_str ?oi_Statement_list ?oi_Statement_tuple ?oi_Statement_dict ?is_Statement_NoneType ?is_Statement_bool ?is_Statement_int ?is_Statement_str ?is_Statement_tuple ?is_Statement_list ?is_Statement_dict ?ne_Statement
    (case xC_BadValue => k_is)
    (case xi_BadValue => k_is)
    (case xl_BadValue => k_is)
    (case xc_BadValue => k_is)
    (case xd_BadValue => k_is)
    (case xv_BadValue => rfl)
    (case xf_BadValue => decide +kernel)
    (case xe_BadValue => k_is)
    (case xk_BadValue => k_is)
    (case xm_BadValue => k_is)
    (case xt_BadValue => decide +kernel)
    (case xa_BadValue => k_is)
    (case xs_BadValue => kernel_rfl)
    (case xb_BadValue => k_is)
    (case xo_BadValue => k_is)
    (case xr_BadValue => rfl)
    (case xw_BadValue => k_is)
    (case xx_BadValue => k_is)
    (case xy_BadValue => k_is)
    (case xp_BadValue => k_is)
    (case xn_BadValue => k_is)
    (case xj_BadValue => k_is)
    (case xg_BadValue => k_is)
    (case xh_BadValue => k_is)
    (case xq_BadValue => k_is)
    (case xz_BadValue => kernel_rfl)
    (case xC_Unlike => k_is)
    (case xi_Unlike => k_is)
    (case xl_Unlike => k_is)
    (case xc_Unlike => k_is)
    (case xd_Unlike => k_is)
    (case xv_Unlike => rfl)
    (case xf_Unlike => decide +kernel)
    (case xe_Unlike => k_is)
    (case xk_Unlike => k_is)
    (case xm_Unlike => k_is)
    (case xt_Unlike => decide +kernel)
    (case xa_Unlike => k_is)
    (case xs_Unlike => kernel_rfl)
    (case xb_Unlike => k_is)
    (case xo_Unlike => k_is)
    (case xr_Unlike => rfl)
    (case xw_Unlike => k_is)
    (case xx_Unlike => k_is)
    (case xy_Unlike => k_is)
    (case xp_Unlike => k_is)
    (case xn_Unlike => k_is)
    (case xj_Unlike => k_is)
    (case xg_Unlike => k_is)
    (case xh_Unlike => k_is)
    (case xq_Unlike => k_is)
    (case xz_Unlike => kernel_rfl)
    (case aC_Course => k_is)
    (case pg_Course => k_is)
    (case hd_Course => k_is)
    (case po_Course => k_is)
    (case sa_Course => k_is)
    (case mk_Course => k_is)
    (case kc_Course => k_is)
    (case tya_Course => k_is)
    (case tyb_Course => k_is)
    (case tyc_Course => k_is)
    (case tyd_Course => k_is)
    (case n_Course_houses => k_is)
    (case n_Course_run => k_is)
    (case n_Course_start => k_is)
    (case n_Course_rise => k_is)
    (case aC_Statement => k_is)
    (case pg_Statement => k_is)
    (case hd_Statement => k_is)
    (case po_Statement => k_is)
    (case sa_Statement => k_is)
    (case mk_Statement => k_is)
    (case kc_Statement => k_is)
    (case tya_Statement => k_is)
    (case tyb_Statement => k_is)
    (case tyc_Statement => k_is)
    (case tyd_Statement => k_is)
    (case n_Statement_target => k_is)
    (case n_Statement_source => k_is)
    (case a0 => k_is)
    (case l0 => k_is)
    (case c0 => k_is)
    (case k0 => k_is)
    (case a1 => k_is)
    (case l1 => k_is)
    (case c1 => k_is)
    (case k1 => k_is)
    (case a2 => k_is)
    (case l2 => k_is)
    (case c2 => k_is)
    (case k2 => k_is)
    (case a3 => k_is)
    (case l3 => k_is)
    (case c3 => k_is)
    (case k3 => k_is)
    (case a4 => k_is)
    (case l4 => k_is)
    (case c4 => k_is)
    (case k4 => k_is)
    (case a5 => k_is)
    (case l5 => k_is)
    (case c5 => k_is)
    (case k5 => k_is)
    (case a6 => k_is)
    (case l6 => k_is)
    (case c6 => k_is)
    (case k6 => k_is)
    (case a7 => k_is)
    (case l7 => k_is)
    (case c7 => k_is)
    (case k7 => k_is)
    (case a8 => k_is)
    (case l8 => k_is)
    (case c8 => k_is)
    (case k8 => k_is)
    (case a9 => k_is)
    (case l9 => k_is)
    (case c9 => k_is)
    (case k9 => k_is)
    (case a10 => k_is)
    (case l10 => k_is)
    (case c10 => k_is)
    (case k10 => k_is)
    (case a11 => k_is)
    (case l11 => k_is)
    (case c11 => k_is)
    (case k11 => k_is)
    (case a12 => k_is)
    (case l12 => k_is)
    (case c12 => k_is)
    (case k12 => k_is)
    (case a13 => k_is)
    (case i13 => k_is)
    (case l13 => k_is)
    (case c13 => k_is)
    (case k13 => k_is)
    (case a14 => k_is)
    (case i14 => k_is)
    (case l14 => k_is)
    (case c14 => k_is)
    (case k14 => k_is)
    (case a15 => k_is)
    (case i15 => k_is)
    (case l15 => k_is)
    (case c15 => k_is)
    (case k15 => k_is)
    (case a16 => k_is)
    (case i16 => k_is)
    (case l16 => k_is)
    (case c16 => k_is)
    (case k16 => k_is)
    (case a17 => k_is)
    (case i17 => k_is)
    (case l17 => k_is)
    (case c17 => k_is)
    (case k17 => k_is)
    (case a18 => k_is)
    (case i18 => k_is)
    (case l18 => k_is)
    (case c18 => k_is)
    (case k18 => k_is)
    (case a19 => k_is)
    (case i19 => k_is)
    (case l19 => k_is)
    (case c19 => k_is)
    (case k19 => k_is)
    (case a20 => k_is)
    (case i20 => k_is)
    (case l20 => k_is)
    (case c20 => k_is)
    (case k20 => k_is)
    (case a21 => k_is)
    (case l21 => k_is)
    (case c21 => k_is)
    (case k21 => k_is)
    (case a22 => k_is)
    (case l22 => k_is)
    (case c22 => k_is)
    (case k22 => k_is)
    (case a23 => k_is)
    (case l23 => k_is)
    (case c23 => k_is)
    (case k23 => k_is)
    (case a24 => k_is)
    (case l24 => k_is)
    (case c24 => k_is)
    (case k24 => k_is)
    (case a25 => k_is)
    (case l25 => k_is)
    (case c25 => k_is)
    (case k25 => k_is)
    (case a26 => k_is)
    (case l26 => k_is)
    (case c26 => k_is)
    (case k26 => k_is)
    (case a27 => k_is)
    (case l27 => k_is)
    (case c27 => k_is)
    (case k27 => k_is)
    (case a28 => k_is)
    (case i28 => k_is)
    (case l28 => k_is)
    (case c28 => k_is)
    (case k28 => k_is)
    (case a29 => k_is)
    (case i29 => k_is)
    (case l29 => k_is)
    (case c29 => k_is)
    (case k29 => k_is)
    (case a30 => k_is)
    (case i30 => k_is)
    (case l30 => k_is)
    (case c30 => k_is)
    (case k30 => k_is)
    (case a31 => k_is)
    (case i31 => k_is)
    (case l31 => k_is)
    (case c31 => k_is)
    (case k31 => k_is)
    (case a32 => k_is)
    (case i32 => k_is)
    (case l32 => k_is)
    (case c32 => k_is)
    (case k32 => k_is)
    (case a33 => k_is)
    (case i33 => k_is)
    (case l33 => k_is)
    (case c33 => k_is)
    (case k33 => k_is)
    (case a34 => k_is)
    (case i34 => k_is)
    (case l34 => k_is)
    (case c34 => k_is)
    (case k34 => k_is)
    (case a35 => k_is)
    (case i35 => k_is)
    (case l35 => k_is)
    (case c35 => k_is)
    (case k35 => k_is)
    (case a36 => k_is)
    (case i36 => k_is)
    (case l36 => k_is)
    (case c36 => k_is)
    (case k36 => k_is)
    (case a37 => k_is)
    (case i37 => k_is)
    (case l37 => k_is)
    (case c37 => k_is)
    (case k37 => k_is)
    (case a38 => k_is)
    (case l38 => k_is)
    (case c38 => k_is)
    (case k38 => k_is)
    (case a39 => k_is)
    (case l39 => k_is)
    (case c39 => k_is)
    (case k39 => k_is)
    (case a40 => k_is)
    (case l40 => k_is)
    (case c40 => k_is)
    (case k40 => k_is)
    (case a41 => k_is)
    (case l41 => k_is)
    (case c41 => k_is)
    (case k41 => k_is)
    (case a42 => k_is)
    (case l42 => k_is)
    (case c42 => k_is)
    (case k42 => k_is)
    (case a43 => k_is)
    (case l43 => k_is)
    (case c43 => k_is)
    (case k43 => k_is)
    (case a44 => k_is)
    (case l44 => k_is)
    (case c44 => k_is)
    (case k44 => k_is)
    (case a45 => k_is)
    (case l45 => k_is)
    (case c45 => k_is)
    (case k45 => k_is)
    (case a46 => k_is)
    (case l46 => k_is)
    (case c46 => k_is)
    (case k46 => k_is)
    (case a47 => k_is)
    (case l47 => k_is)
    (case c47 => k_is)
    (case k47 => k_is)
    (case a48 => k_is)
    (case l48 => k_is)
    (case c48 => k_is)
    (case k48 => k_is)
    (case a49 => k_is)
    (case l49 => k_is)
    (case c49 => k_is)
    (case k49 => k_is)
    (case a50 => k_is)
    (case l50 => k_is)
    (case c50 => k_is)
    (case k50 => k_is)
    (case a51 => k_is)
    (case l51 => k_is)
    (case c51 => k_is)
    (case k51 => k_is)
    (case a52 => k_is)
    (case l52 => k_is)
    (case c52 => k_is)
    (case lc52 => k_is)
    (case lp52 => rfl)
    (case lh52 => kernel_rfl)
    (case ln52 => kernel_rfl)
    (case lt52 => exact kx_tabs_of Y _ (by decide) (by kernel_rfl))
    (case k52 => k_is)
    (case a53 => k_is)
    (case l53 => k_is)
    (case c53 => k_is)
    (case k53 => k_is)
    (case z_abs => k_is)
    (case z_bool => k_is)
    (case z_divmod => k_is)
    (case z_int => k_is)
    (case z_isinstance => k_is)
    (case z_len => k_is)
    (case z_list => k_is)
    (case z_max => k_is)
    (case z_min => k_is)
    (case z_range => k_is)
    (case z_sum => k_is)
    (case z_super => k_is)
    (case a0_NotTold => k_is)
    (case x0_NotTold => k_exc)
    (case k0_NotTold => k_is)
    (case b0_NotTold => k_is)
    (case t0_NotTold => k_is)
    (case e0_NotTold => kernel_rfl)
    (case xn2_Unlike => k_is)
    (case en_BadValue_Unlike => kernel_rfl)
    (case en_BadValue_NotTold => kernel_rfl)
    (case en_NotTold_Unlike => kernel_rfl)
    (case oi_Course_int => kernel_rfl)
    (case oi_Course_bool => kernel_rfl)
    (case oi_Course_str => kernel_rfl)
    (case oi_Course_list => kernel_rfl)
    (case oi_Course_tuple => kernel_rfl)
    (case oi_Course_dict => kernel_rfl)
    (case is_Course_NoneType => kernel_rfl)
    (case is_Course_bool => kernel_rfl)
    (case is_Course_int => kernel_rfl)
    (case is_Course_str => kernel_rfl)
    (case is_Course_tuple => kernel_rfl)
    (case is_Course_list => kernel_rfl)
    (case is_Course_dict => kernel_rfl)
    (case ne_Course => k_is)
    (case oi_Statement_int => kernel_rfl)
    (case oi_Statement_bool => kernel_rfl)
    (case oi_Statement_str => kernel_rfl)
    (case oi_Statement_list => kernel_rfl)
    (case oi_Statement_tuple => kernel_rfl)
    (case oi_Statement_dict => kernel_rfl)
    (case is_Statement_NoneType => kernel_rfl)
    (case is_Statement_bool => kernel_rfl)
    (case is_Statement_int => kernel_rfl)
    (case is_Statement_str => kernel_rfl)
    (case is_Statement_tuple => kernel_rfl)
    (case is_Statement_list => kernel_rfl)
    (case is_Statement_dict => kernel_rfl)
    (case ne_Statement => k_is)
