import PyProof.Rows.All
import Wide.All
import OpenK.AllK
import Wide.FinOn
import HandS.ForMost
import HandS.IsInst
import HandS.Conv
import HandS.More
import HandS.Walk
import HandS.RevRange
import KE.KDictCopyH
import PySem.Challenge.RW_onestep_k04_whole_rows_once
set_option Elab.async false
set_option linter.all false
set_option maxRecDepth 100000
set_option maxHeartbeats 4000000
/-! ### one step of a reading at a time -/
namespace One
open PySem L2
section
variable {σ : L2.St} {H : Hp} {Q : VK} {D : Ends} {ta tb te : TE} {tt tu : TT} {t u : TS} {tr : TA} {g : TG}
theorem rd_var {i : Nat} (k : ∃ v, σ[i]? = some (some v) ∧ Q v H) : tVar i σ H Q := k
theorem rd_c {v : V} (k : Q v H) : tC v σ H Q := k
theorem rd_op {r : R2} (k : ta σ H fun x H1 => tb σ H1 fun y H2 => r x y H2 Q) : tOp r ta tb σ H Q := k
theorem rd_un {r : V → Hp → VK → Prop} (k : ta σ H fun x H1 => r x H1 Q) : tUn r ta σ H Q := k
theorem rd_neg {i : Int} (k : Q (.int (-i)) H) : rU (fun i => .int (-i)) (.int i) H Q := ⟨i, rfl, k⟩
theorem rd_i0 {f : Int → Int → V} {i j : Int} (k : Q (f i j) H) : rI0 f (.int i) (.int j) H Q := ⟨i, j, rfl, rfl, k⟩
theorem rd_i {C : Int → Int → Prop} {f : Int → Int → V} {i j : Int} (c : C i j) (k : Q (f i j) H) : rI C f (.int i) (.int j) H Q := ⟨i, j, rfl, rfl, c, k⟩
theorem rd_mul1 {f : Int → Int → V} {i j : Int} (c : -(2 ^ 64) < i ∧ i < 2 ^ 64) (k : Q (f i j) H) : rI CMul f (.int i) (.int j) H Q := ⟨i, j, rfl, rfl, .inl c, k⟩
theorem rd_mul2 {f : Int → Int → V} {i j : Int} (c : -(2 ^ 64) < j ∧ j < 2 ^ 64) (k : Q (f i j) H) : rI CMul f (.int i) (.int j) H Q := ⟨i, j, rfl, rfl, .inr c, k⟩
theorem rd_div {f : Int → Int → V} {i j : Int} (c : 0 < j ∧ j < 1073741824) (k : Q (f i j) H) : rI CDiv f (.int i) (.int j) H Q := ⟨i, j, rfl, rfl, c, k⟩
theorem rd_mod {f : Int → Int → V} {i j : Int} (c : 0 < j) (k : Q (f i j) H) : rI (fun _ j => 0 < j) f (.int i) (.int j) H Q := ⟨i, j, rfl, rfl, c, k⟩
theorem int_eq {i j : Int} : decide (V.int i = V.int j) = decide (i = j) := by
  by_cases h : i = j
  · rw [decide_eq_true h, decide_eq_true (by rw [h])]
  · rw [decide_eq_false h, decide_eq_false fun e => h (V.int.inj e)]
theorem bl_eq {i j : Bool} : decide (V.bl i = V.bl j) = (i == j) := by
  cases i <;> cases j <;> rfl
theorem rd_eq {i j : Int} (k : Q (.bl (decide (i = j))) H) : rEq (.int i) (.int j) H Q := ⟨rfl, by rw [int_eq]; exact k⟩
theorem rd_ne {i j : Int} (k : Q (.bl (!decide (i = j))) H) : rNe (.int i) (.int j) H Q := ⟨rfl, by rw [int_eq]; exact k⟩
theorem rd_eqB {i j : Bool} (k : Q (.bl (i == j)) H) : rEq (.bl i) (.bl j) H Q := ⟨rfl, by rw [bl_eq]; exact k⟩
theorem rd_neB {i j : Bool} (k : Q (.bl (!(i == j))) H) : rNe (.bl i) (.bl j) H Q := ⟨rfl, by rw [bl_eq]; exact k⟩
theorem rd_test {Q : Bool → Hp → Prop} (k : te σ H fun x H1 => ∃ k, x = .bl k ∧ Q k H1) : tTest te σ H Q := k
theorem rd_tB {Q : Bool → Hp → Prop} (k : te σ H fun x H1 => ∃ k, x = .bl k ∧ Q k H1) : tB te σ H Q := k
theorem rd_bl {b : Bool} {P : Bool → Prop} (k : P b) : ∃ k, V.bl b = .bl k ∧ P k := ⟨b, rfl, k⟩
theorem rd_and {Q : Bool → Hp → Prop} (k : tt σ H fun c H1 => if c = true then tu σ H1 Q else Q false H1) : tAnd tt tu σ H Q := k
theorem rd_or {Q : Bool → Hp → Prop} (k : tt σ H fun c H1 => if c = true then Q true H1 else tu σ H1 Q) : tOr tt tu σ H Q := k
theorem rd_not {Q : Bool → Hp → Prop} (k : tt σ H fun c H1 => Q (!c) H1) : tNot tt σ H Q := k
theorem rd_andV (k : ta σ H fun x H1 => ∃ c, x = .bl c ∧ if c = true then tb σ H1 Q else Q (.bl false) H1) : tAndV ta tb σ H Q := k
theorem rd_orV (k : ta σ H fun x H1 => ∃ c, x = .bl c ∧ if c = true then Q (.bl true) H1 else tb σ H1 Q) : tOrV ta tb σ H Q := k
theorem rd_notV (k : ta σ H fun x H1 => ∃ c, x = .bl c ∧ Q (.bl (!c)) H1) : tNotV ta σ H Q := k
theorem rd_ifx (k : tt σ H fun c H1 => if c = true then ta σ H1 Q else tb σ H1 Q) : tIf tt ta tb σ H Q := k
theorem rd_seq (k : t { D with nx := u D } σ H) : tSeq t u D σ H := k
theorem rd_next (k : D.nx σ H) : tNext D σ H := k
theorem rd_asg (k : te σ H fun x H1 => g x σ H1 D.nx) : tAsg te g D σ H := k
theorem rd_name {i : Nat} {v : V} {N : L2.St → Hp → Prop} (k : N (σ.set i (some v)) H) : gName i v σ H N := k
theorem rd_par {i j : Nat} {ta : TA} (k : ta σ H fun vs H1 => ∃ v w, vs = [v, w] ∧ D.nx ((σ.set i (some v)).set j (some w)) H1) : tPar i j ta D σ H := k
theorem rd_two {v w : V} {P : V → V → Prop} (k : P v w) : ∃ v' w', [v, w] = [v', w'] ∧ P v' w' := ⟨v, w, rfl, k⟩
theorem rd_drop (k : te σ H fun _ H1 => D.nx σ H1) : tDrop te D σ H := k
theorem rd_ret (k : te σ H D.rt) : tRet te D σ H := k
theorem rd_if (k : tt σ H fun b H1 => if b = true then t D σ H1 else u D σ H1) : tIfS tt t u D σ H := k
theorem rd_nil {Q : List V → Hp → Prop} (k : Q [] H) : tNil σ H Q := k
theorem rd_cons {Q : List V → Hp → Prop} (k : ta σ H fun x H1 => tr σ H1 fun xs H2 => Q (x :: xs) H2) : tCons ta tr σ H Q := k
theorem rd_cb {r : List V → Hp → VK → Prop} (k : tr σ H fun vs H1 => r vs H1 Q) : tCB r tr σ H Q := k
theorem rd_call {sp : Sp} {dvs : List V} {E : XK} (k : tr σ H fun vs H1 => sp (vs ++ dvs) H1 Q E) : tCall sp dvs E tr σ H Q := k
theorem rd_tup (k : tr σ H fun xs H1 => xs.length ≤ sizeLine ∧ ∀ p, H1 p = none → Q (.ref p) (upd H1 p (.tup xs))) : tTup tr σ H Q := k
theorem rd_lst (k : tr σ H fun xs H1 => xs.length ≤ sizeLine ∧ ∀ p, H1 p = none → Q (.ref p) (upd H1 p (.lst xs))) : tLst tr σ H Q := k
/-- the new thing's size is seen by its form; the new address is then for an intro -/
theorem rd_new {xs : List V} {P : Prop} (h : xs.length ≤ sizeLine) (k : P) : xs.length ≤ sizeLine ∧ P := ⟨h, k⟩
theorem rd_bm {K : PySem.W.Frag} {T : String} {r : V → List V → Hp → VK → Prop} (k : ta σ H fun x H1 => tyV K T x H1 ∧ tr σ H1 fun xs H2 => r x xs H2 Q) : tBM K T r ta tr σ H Q := k
theorem rd_sl {r : V → Option Int → Option Int → Hp → VK → Prop} {tl th : TO} (k : te σ H fun x H1 => tl σ H1 fun l H2 => th σ H2 fun u H3 => r x l u H3 Q) : tSl r te tl th σ H Q := k
theorem rd_nopart {Q : Option Int → Hp → Prop} (k : Q none H) : tNoPart σ H Q := k
theorem rd_part {Q : Option Int → Hp → Prop} (k : te σ H fun x H1 => ∃ i, x = .int i ∧ Q (some i) H1) : tPart te σ H Q := k
theorem rd_ni {i : Int} {P : Int → Prop} (k : P i) : ∃ j, V.int i = .int j ∧ P j := ⟨i, rfl, k⟩
/-- loops: the source's values first -/
def R1 (g : TG) (tb : TS) (D : Ends) (σ : L2.St) (vs : List V) (H : Hp) : Prop := ∃ j : Int, vs = [.int j] ∧ -(2 ^ 62) ≤ j ∧ j < 2 ^ 62 ∧ ∃ W : Nat → Nat → L2.St → Hp → Prop, (∃ m, W 0 m σ H) ∧ ∀ i m σ H, W i m σ H →
  ((Itr 0 j.toNat).stop i H ∧ D.nx σ H) ∨ ((Itr 0 j.toNat).go i H ∧ ∃ N : L2.St → Hp → Prop, (∀ σ' H', N σ' H' → ∃ m', m' < m ∧ W (i + 1) m' σ' H') ∧ ∀ x H', (Itr 0 j.toNat).yld i H x H' → g x σ H' fun σ2 H2 => tb { D with nx := N, ct := N, bk := D.nx } σ2 H2)
theorem rd_for1 {tb : TS} (k : tr σ H fun vs H1 => R1 g tb D σ vs H1) : tFor (iRng1 tr) g tb D σ H := k
/-- for i in range(n) -/
theorem for1 {tb : TS} {i n : Nat} (hn : n < 2 ^ 62) (Pv : Nat → L2.St → Hp → Prop) (h0 : Pv 0 σ H)
    (hs : ∀ k σ H, k < n → Pv k σ H → tb { D with nx := Pv (k + 1), ct := Pv (k + 1), bk := D.nx } (σ.set i (some (.int (k : Int)))) H) (hd : ∀ σ H, Pv n σ H → D.nx σ H) : R1 (gName i) tb D σ [.int (n : Int)] H :=
  ⟨n, rfl, by omega, by omega, for_range (lo := 0) (n := (n : Int).toNat) Pv h0 (fun k σ H hk p => by
    have e0 : (0 : Int) + (k : Int) = (k : Int) := Int.zero_add _
    show tb { D with nx := Pv (k + 1), ct := Pv (k + 1), bk := D.nx } (σ.set i (some (.int ((0 : Int) + (k : Int))))) H
    rw [e0]
    exact hs k σ H (by omega) p) hd⟩
def RL (K : PySem.W.Frag) (g : TG) (tb : TS) (D : Ends) (σ : L2.St) (x : V) (H : Hp) : Prop := ∃ a, x = .ref a ∧ (∃ xs, SqL K H a xs) ∧ ∃ W : Nat → Nat → L2.St → Hp → Prop, (∃ m, W 0 m σ H) ∧ ∀ i m σ H, W i m σ H →
  ((Itl K a).stop i H ∧ D.nx σ H) ∨ ((Itl K a).go i H ∧ ∃ N : L2.St → Hp → Prop, (∀ σ' H', N σ' H' → ∃ m', m' < m ∧ W (i + 1) m' σ' H') ∧ ∀ x H', (Itl K a).yld i H x H' → g x σ H' fun σ2 H2 => tb { D with nx := N, ct := N, bk := D.nx } σ2 H2)
theorem rd_forL {K : PySem.W.Frag} {tb : TS} (k : te σ H fun x H1 => RL K g tb D σ x H1) : tFor (iList K te) g tb D σ H := k
/-- for x in xs, a list that stands still -/
theorem forL {K : PySem.W.Frag} {tb : TS} {a : Addr} {xs : List V} (Pv : Nat → L2.St → Hp → Prop) (h0 : Pv 0 σ H) (hl : ∀ i σ H, i ≤ xs.length → Pv i σ H → SqL K H a xs)
    (hs : ∀ i x σ H, xs[i]? = some x → Pv i σ H → g x σ H fun σ2 H2 => tb { D with nx := Pv (i + 1), ct := Pv (i + 1), bk := D.nx } σ2 H2) (hd : ∀ σ H, Pv xs.length σ H → D.nx σ H) : RL K g tb D σ (.ref a) H :=
  ⟨a, rfl, ⟨xs, hl 0 σ H (Nat.zero_le _) h0⟩, for_list Pv h0 hl hs hd⟩
/-- while: the body's wish -/
def RW (W : Nat → L2.St → Hp → Prop) (m : Nat) (tb : TS) (D : Ends) (σ : L2.St) (H1 : Hp) : Prop := ∃ N : L2.St → Hp → Prop, (∀ σ' H', N σ' H' → ∃ m', m' < m ∧ W m' σ' H') ∧ tb { D with nx := N, ct := N, bk := D.nx } σ H1
theorem whil {tb : TS} (W : Nat → L2.St → Hp → Prop) (m0 : Nat) (h0 : W m0 σ H) (hs : ∀ m σ H, W m σ H → tt σ H fun b H1 => if b = true then RW W m tb D σ H1 else D.nx σ H1) : tWhile tt tb D σ H := ⟨W, ⟨m0, h0⟩, hs⟩
theorem whil_in {W : Nat → L2.St → Hp → Prop} {m : Nat} {tb : TS} (k : tb { D with nx := fun σ' H' => ∃ m', m' < m ∧ W m' σ' H', ct := fun σ' H' => ∃ m', m' < m ∧ W m' σ' H', bk := D.nx } σ H) : RW W m tb D σ H := ⟨_, fun _ _ h => h, k⟩
/-- for x in reversed(xs) -/
def RV (K : PySem.W.Frag) (g : TG) (tb : TS) (D : Ends) (σ : L2.St) (vs : List V) (H : Hp) : Prop := ∃ (a : Addr) (xs : List V), vs = [.ref a] ∧ SqL K H a xs ∧ ∃ W : Nat → Nat → L2.St → Hp → Prop, (∃ m, W 0 m σ H) ∧ ∀ i m σ H, W i m σ H →
  ((Itv K a xs.length).stop i H ∧ D.nx σ H) ∨ ((Itv K a xs.length).go i H ∧ ∃ N : L2.St → Hp → Prop, (∀ σ' H', N σ' H' → ∃ m', m' < m ∧ W (i + 1) m' σ' H') ∧ ∀ x H', (Itv K a xs.length).yld i H x H' → g x σ H' fun σ2 H2 => tb { D with nx := N, ct := N, bk := D.nx } σ2 H2)
theorem rd_forV {K : PySem.W.Frag} {tb : TS} (k : tr σ H fun vs H1 => RV K g tb D σ vs H1) : tFor (iRev K tr) g tb D σ H := k
theorem forV {K : PySem.W.Frag} {tb : TS} {a : Addr} {xs : List V} (Pv : Nat → L2.St → Hp → Prop) (h0 : Pv 0 σ H) (hl : ∀ i σ H, i ≤ xs.length → Pv i σ H → SqL K H a xs)
    (hs : ∀ i x σ H, i < xs.length → xs[xs.length - 1 - i]? = some x → Pv i σ H → g x σ H fun σ2 H2 => tb { D with nx := Pv (i + 1), ct := Pv (i + 1), bk := D.nx } σ2 H2) (hd : ∀ σ H, Pv xs.length σ H → D.nx σ H) : RV K g tb D σ [.ref a] H := by
  refine ⟨a, xs, rfl, hl 0 σ H (Nat.zero_le _) h0, fun i m σ H => m = xs.length - i ∧ i ≤ xs.length ∧ Pv i σ H, ⟨xs.length, by simp, Nat.zero_le _, h0⟩, ?_⟩
  rintro i m σ H ⟨rfl, hi, p⟩
  have q := hl i σ H hi p
  by_cases hlt : i < xs.length
  · have e : xs[xs.length - 1 - i]? = some (xs[xs.length - 1 - i]'(by omega)) := List.getElem?_eq_getElem (by omega)
    refine .inr ⟨⟨hlt, xs, _, q, e⟩, Pv (i + 1), fun σ' H' p' => ⟨xs.length - (i + 1), by omega, rfl, hlt, p'⟩, fun x H' y => ?_⟩
    obtain ⟨rfl, y⟩ := y
    exact hs i x _ _ hlt (y xs q) p
  · have e : i = xs.length := by omega
    subst e
    exact .inl ⟨Nat.le_refl _, hd σ H p⟩
end
/-! ### known branches -/
section
variable {A B : Prop}
theorem if_t (a : A) : if true = true then A else B := a
theorem if_f (b : B) : if false = true then A else B := by
  rw [if_neg Bool.false_ne_true]
  exact b
theorem if_ft (b : B) : if (!true) = true then A else B := if_f b
theorem if_tf (a : A) : if (!false) = true then A else B := a
theorem if_dt {p : Prop} [Decidable p] (h : p) (a : A) : if decide p = true then A else B := by
  rw [if_pos (decide_eq_true h)]
  exact a
theorem if_df {p : Prop} [Decidable p] (h : ¬ p) (b : B) : if decide p = true then A else B := by
  rw [if_neg (by simpa using h)]
  exact b
theorem if_nt {p : Prop} [Decidable p] (h : ¬ p) (a : A) : if (!decide p) = true then A else B := by
  rw [if_pos (by simpa using h)]
  exact a
theorem if_nf {p : Prop} [Decidable p] (h : p) (b : B) : if (!decide p) = true then A else B := by
  rw [if_neg (by simpa using h)]
  exact b
theorem if_d2 {p : Prop} [Decidable p] (a : p → A) (b : ¬ p → B) : if decide p = true then A else B := by
  by_cases h : p
  · exact if_dt h (a h)
  · exact if_df h (b h)
theorem if_n2 {p : Prop} [Decidable p] (a : ¬ p → A) (b : p → B) : if (!decide p) = true then A else B := by
  by_cases h : p
  · exact if_nf h (b h)
  · exact if_nt h (a h)
theorem if_b2 {c : Bool} (a : c = true → A) (b : c = false → B) : if c = true then A else B := by
  cases c with
  | true => exact a rfl
  | false => exact if_f (b rfl)
end
/-! ### heaps -/
theorem same_upd {H : Hp} {p : Addr} {o : HO} (h : H p = none) : Same H (upd H p o) := fun b x e => by
  rw [upd_ne (ne_of_none e h)]
  exact e
/-- a thing that H does not know may change -/
theorem same_mut {H H' : Hp} {p : Addr} {o : HO} (e : Same H H') (h : H p = none) : Same H (upd H' p o) := fun a u ha => by
  rw [upd_ne (ne_of_none ha h)]
  exact e a u ha
theorem same_list {K : PySem.W.Frag} {H H' : Hp} {a : Addr} {xs : List V} (e : Same H H') (h : SqL K H a xs) : SqL K H' a xs := e.seq h
theorem at_int {ns : List Int} {i : Nat} {x : V} (h : (ns.map V.int)[i]? = some x) : ∃ z, ns[i]? = some z ∧ x = V.int z := by
  rw [List.getElem?_map] at h
  cases e : ns[i]? with
  | none =>
    rw [e] at h
    cases h
  | some z =>
    rw [e] at h
    exact ⟨z, rfl, (Option.some.inj h).symm⟩
end One
/-! ### isinstance, lists, cells -/
namespace One
open PySem L2
section
variable {K : PySem.W.Frag} {σ : L2.St} {H : Hp} {Q : VK} {D : Ends}
theorem kit_ii : PySem.W.kitOne K (.type "int") (.type "int") = some true := kit_ty (by decide +kernel)
theorem kit_ib : PySem.W.kitOne K (.type "int") (.type "bool") = some false := kit_ty (by decide +kernel)
theorem kit_bb : PySem.W.kitOne K (.type "bool") (.type "bool") = some true := kit_ty (by decide +kernel)
theorem kit_ll : PySem.W.kitOne K (.type "list") (.type "list") = some true := kit_ty (by decide +kernel)
theorem kit_tt : PySem.W.kitOne K (.type "tuple") (.type "tuple") = some true := kit_ty (by decide +kernel)
theorem isi_ii {i : Int} (k : Q (.bl true) H) : rIsi K [.int i, .ty "int"] H Q := ⟨_, _, _, _, _, rfl, .ty _, .base (.int i), kit_ii, k⟩
theorem isi_ib {i : Int} (k : Q (.bl false) H) : rIsi K [.int i, .ty "bool"] H Q := ⟨_, _, _, _, _, rfl, .ty _, .base (.int i), kit_ib, k⟩
theorem isi_bb {i : Bool} (k : Q (.bl true) H) : rIsi K [.bl i, .ty "bool"] H Q := ⟨_, _, _, _, _, rfl, .ty _, .base (.bl i), kit_bb, k⟩
theorem isi_ll {a : Addr} {xs : List V} (h : H a = some (.lst xs)) (k : Q (.bl true) H) : rIsi K [.ref a, .ty "list"] H Q := ⟨_, _, _, _, _, rfl, .ty _, .base (.lst h), kit_ll, k⟩
theorem isi_tt {a : Addr} {xs : List V} (h : H a = some (.tup xs)) (k : Q (.bl true) H) : rIsi K [.ref a, .ty "tuple"] H Q := ⟨_, _, _, _, _, rfl, .ty _, .base (.tup h), kit_tt, k⟩
/-- len(xs) -/
theorem rd_len {a : Addr} {xs : List V} {P : List V → Prop} (h : SqL K H a xs) (k : P xs) : ∃ p ys, [V.ref a] = [.ref p] ∧ (SqL K H p ys ∨ SqT K H p ys) ∧ P ys := ⟨a, xs, rfl, .inl h, k⟩
theorem rd_lenT {a : Addr} {xs : List V} {P : List V → Prop} (h : SqT K H a xs) (k : P xs) : ∃ p ys, [V.ref a] = [.ref p] ∧ (SqL K H p ys ∨ SqT K H p ys) ∧ P ys := ⟨a, xs, rfl, .inr h, k⟩
/-- xs[i] -/
theorem rd_at {a : Addr} {xs : List V} {i : Nat} {v : V} (h : SqL K H a xs) (e : xs[i]? = some v) (k : Q v H) : rIxL K (.ref a) (.int (i : Int)) H Q := ⟨a, xs, i, v, rfl, rfl, h, atI_nat e, k⟩
theorem rd_atT {a : Addr} {xs : List V} {i : Nat} {v : V} (h : SqT K H a xs) (e : xs[i]? = some v) (k : Q v H) : rIxT K (.ref a) (.int (i : Int)) H Q := ⟨a, xs, i, v, rfl, rfl, h, atI_nat e, k⟩
theorem tyL {a : Addr} {xs : List V} (h : H a = some (.lst xs)) : tyV K "list" (.ref a) H := .inl ⟨rfl, _, .inl (.inl h)⟩
/-- xs.append(y) -/
theorem rd_app {a : Addr} {xs : List V} {y : V} (h : H a = some (.lst xs)) (hs : xs.length < 100000) (k : Q .non (upd H a (.lst (xs ++ [y])))) : rAppend (.ref a) [y] H Q := ⟨a, xs, y, rfl, rfl, h, Nat.lt_of_lt_of_le hs (by decide), k⟩
/-- xs + ys -/
theorem rd_cat {a b : Addr} {xs ys : List V} (h : H a = some (.lst xs)) (h2 : H b = some (.lst ys)) (hs : xs.length + ys.length ≤ 100000) (k : ∀ p, H p = none → Q (.ref p) (upd H p (.lst (xs ++ ys)))) : rCat (.ref a) (.ref b) H Q := ⟨a, b, xs, ys, rfl, rfl, h, h2, Nat.le_trans hs (by decide), k⟩
theorem rd_newL {n : Nat} {P : Prop} (hs : n ≤ 100000) (k : P) : n ≤ sizeLine ∧ P := ⟨Nat.le_trans hs (by decide), k⟩
theorem bls_at {bs : List Bool} {i : Nat} {b : Bool} (h : bs[i]? = some b) : (bs.map V.bl)[i]? = some (.bl b) := by
  rw [List.getElem?_map, h]
  rfl
theorem ints_at {bs : List Int} {i : Nat} {b : Int} (h : bs[i]? = some b) : (bs.map V.int)[i]? = some (.int b) := by
  rw [List.getElem?_map, h]
  rfl
end
end One
namespace One
open PySem L2
theorem vi1 {a b : Int} (h : a = b) : [V.int a] = [V.int b] := by rw [h]
theorem vi2 {a b c d : Int} (h : a = b) (h2 : c = d) : [V.int a, V.int c] = [V.int b, V.int d] := by rw [h, h2]
theorem vi3 {a b c d e f : Int} (h : a = b) (h2 : c = d) (h3 : e = f) : [V.int a, V.int c, V.int e] = [V.int b, V.int d, V.int f] := by rw [h, h2, h3]
theorem vr1 {p : Addr} {a b : Int} (h : a = b) : [V.ref p, V.int a] = [V.ref p, V.int b] := by rw [h]
/-- law's: a list of at most 63 ints is handed in, True comes out -/
def spLaw (K : PySem.W.Frag) : Sp := fun vs H Q _ => ∃ (a : Addr) (ns : List Int), vs = [.ref a] ∧ SqL K H a (ns.map V.int) ∧ ns.length ≤ 63 ∧ ∀ H', Q (.bl true) H'
end One
/-! ### two lists compared: ints, truths -/
namespace One
open PySem L2
section
variable {K : PySem.W.Frag} {H : Hp} {Q : VK}
def dInts (ns : List Int) : PyData := .list (ns.map PyData.int)
def dBls (ns : List Bool) : PyData := .list (ns.map PyData.bool)
theorem dpA_int : ∀ ns : List Int, DpAll K H (ns.map V.int) (ns.map PyData.int)
  | [] => .nil
  | n :: r => .cons (.int n) (dpA_int r)
theorem dpA_bl : ∀ ns : List Bool, DpAll K H (ns.map V.bl) (ns.map PyData.bool)
  | [] => .nil
  | n :: r => .cons (.bl n) (dpA_bl r)
theorem dp_ints {a : Addr} {ns : List Int} (h : SqL K H a (ns.map V.int)) : Dp K H (.ref a) (dInts ns) := .lst h (dpA_int ns)
theorem dp_bls {a : Addr} {ns : List Bool} (h : SqL K H a (ns.map V.bl)) : Dp K H (.ref a) (dBls ns) := .lst h (dpA_bl ns)
end
end One
namespace One
open PySem L2
theorem cl_ints : ∀ ns : List Int, PyData.canLayAll0 (ns.map PyData.int) = true
  | [] => rfl
  | n :: r => by
    show (PyData.canLay0 (.int n) && PyData.canLayAll0 (r.map PyData.int)) = true
    rw [cl_ints r]
    rfl
theorem cl_bls : ∀ ns : List Bool, PyData.canLayAll0 (ns.map PyData.bool) = true
  | [] => rfl
  | n :: r => by
    show (PyData.canLay0 (.bool n) && PyData.canLayAll0 (r.map PyData.bool)) = true
    rw [cl_bls r]
    rfl
theorem dep_ints : ∀ ns : List Int, PyData.depthAll (ns.map PyData.int) = 0
  | [] => rfl
  | n :: r => by
    show max (PyData.depth (.int n)) (PyData.depthAll (r.map PyData.int)) = 0
    rw [dep_ints r]
    rfl
theorem dep_bls : ∀ ns : List Bool, PyData.depthAll (ns.map PyData.bool) = 0
  | [] => rfl
  | n :: r => by
    show max (PyData.depth (.bool n)) (PyData.depthAll (r.map PyData.bool)) = 0
    rw [dep_bls r]
    rfl
theorem lay_ints (ns : List Int) : (dInts ns).canLay0 = true := cl_ints ns
theorem lay_bls (ns : List Bool) : (dBls ns).canLay0 = true := cl_bls ns
theorem shp_ints (ns : List Int) : SeqAt.shaped (dInts ns) = true := by
  have e : (dInts ns).depth = 1 := by
    show PyData.depthAll (ns.map PyData.int) + 1 = 1
    rw [dep_ints]
  unfold SeqAt.shaped
  rw [lay_ints, e]
  rfl
theorem shp_bls (ns : List Bool) : SeqAt.shaped (dBls ns) = true := by
  have e : (dBls ns).depth = 1 := by
    show PyData.depthAll (ns.map PyData.bool) + 1 = 1
    rw [dep_bls]
  unfold SeqAt.shaped
  rw [lay_bls, e]
  rfl
section
variable {K : PySem.W.Frag} {H : Hp} {Q : VK} {a b : Addr}
/-- equal lists: != gives False, == True -/
theorem rd_neI {ns : List Int} (ha : SqL K H a (ns.map V.int)) (hb : SqL K H b (ns.map V.int)) (k : Q (.bl false) H) : rNeD K (.ref a) (.ref b) H Q :=
  ⟨dInts ns, dInts ns, dp_ints ha, dp_ints hb, shp_ints ns, shp_ints ns, by rw [SeqAt.eqv_refl _ (lay_ints ns)]; exact k⟩
theorem rd_neBs {ns : List Bool} (ha : SqL K H a (ns.map V.bl)) (hb : SqL K H b (ns.map V.bl)) (k : Q (.bl false) H) : rNeD K (.ref a) (.ref b) H Q :=
  ⟨dBls ns, dBls ns, dp_bls ha, dp_bls hb, shp_bls ns, shp_bls ns, by rw [SeqAt.eqv_refl _ (lay_bls ns)]; exact k⟩
theorem rd_eqI {ns : List Int} (ha : SqL K H a (ns.map V.int)) (hb : SqL K H b (ns.map V.int)) (k : Q (.bl true) H) : rEqD K (.ref a) (.ref b) H Q :=
  ⟨dInts ns, dInts ns, dp_ints ha, dp_ints hb, shp_ints ns, shp_ints ns, by rw [SeqAt.eqv_refl _ (lay_ints ns)]; exact k⟩
theorem rd_eqBs {ns : List Bool} (ha : SqL K H a (ns.map V.bl)) (hb : SqL K H b (ns.map V.bl)) (k : Q (.bl true) H) : rEqD K (.ref a) (.ref b) H Q :=
  ⟨dBls ns, dBls ns, dp_bls ha, dp_bls hb, shp_bls ns, shp_bls ns, by rw [SeqAt.eqv_refl _ (lay_bls ns)]; exact k⟩
theorem rd_intB {b : Bool} {P : Int → Prop} (k : P (if b = true then 1 else 0)) : (∃ i, [V.bl b] = [.int i] ∧ P i) ∨ ∃ k, [V.bl b] = [.bl k] ∧ P (if k = true then 1 else 0) := .inr ⟨b, rfl, k⟩
theorem rd_listOf {xs : List V} {P : Addr → List V → Prop} (h : SqL K H a xs) (k : ∀ l, H l = none → P l xs) : ∃ p ys, [V.ref a] = [.ref p] ∧ (SqL K H p ys ∨ SqT K H p ys) ∧ ∀ l, H l = none → P l ys := ⟨a, xs, rfl, .inl h, k⟩
end
end One
namespace One
open PySem L2
/-- a list of natural numbers, as whole numbers -/
def zs (l : List Nat) : List Int := l.map fun (x : Nat) => (x : Int)
theorem zs_len (l : List Nat) : (zs l).length = l.length := List.length_map _
theorem zsV_len (l : List Nat) : ((zs l).map V.int).length = l.length := by rw [List.length_map, zs_len]
theorem zs_at {l : List Nat} {i x : Nat} (h : l[i]? = some x) : ((zs l).map V.int)[i]? = some (.int (x : Int)) := by
  rw [List.getElem?_map]
  unfold zs
  rw [List.getElem?_map, h]
  rfl
theorem zs_snoc (l : List Nat) (n : Nat) : (zs (l ++ [n])).map V.int = (zs l).map V.int ++ [.int (n : Int)] := by
  unfold zs
  rw [List.map_append, List.map_append]
  rfl
theorem zs_cons (l : List Nat) (n : Nat) : (zs (n :: l)).map V.int = .int (n : Int) :: (zs l).map V.int := rfl
section
variable {K : PySem.W.Frag} {H : Hp} {Q : VK}
/-- xs.insert(i, y) -/
theorem rd_ins {a : Addr} {xs : List V} {y : V} {z : Int} {i : Nat} {P : Addr → List V → Int → V → Prop} (hz : z = (i : Int)) (h : H a = some (.lst xs)) (hs : xs.length < 100000) (hi : i ≤ 100000) (k : P a xs (i : Int) y) :
    ∃ (l : Addr) (xs : List V) (i : Int) (y' : V), V.ref a = .ref l ∧ [V.int z, y] = [.int i, y'] ∧ H l = some (.lst xs) ∧ xs.length < sizeLine ∧ 0 ≤ i ∧ i < 2 ^ 63 ∧ P l xs i y' := by
  subst hz
  exact ⟨a, xs, i, y, rfl, rfl, h, Nat.lt_of_lt_of_le hs (by decide), by omega, by omega, k⟩
end
end One
/-! ### comprehensions -/
namespace One
open PySem L2
section
variable {K : PySem.W.Frag} {J : It} {n : Nat} {G : Hp → Prop} {Y : Nat → Hp → V → Hp → Prop} {σ : L2.St} {H H1 H' H4 : Hp} {Q : VK} {g : TG} {tt : TT} {te el : TE} {tr : TA} {vs : List Nat} {ws : Nat → List V} {D : Addr} {f : Nat → Bool} {v : Nat → V} {i : Nat} {y : V}
/-- the loop of a comprehension whose iterator has come -/
def Lc (J : It) (g : TG) (tt : TT) (el : TE) (vs : List Nat) (σ : L2.St) (Q : VK) (H1 : Hp) : Prop := ∀ D, H1 D = none → ∃ W : Nat → Nat → Hp → Prop, (∃ m, W 0 m (upd H1 D (.lst []))) ∧ ∀ i m H, W i m H →
  (J.stop i H ∧ Q (.ref D) H) ∨ (J.go i H ∧ ∃ Nx : Hp → Prop, (∀ H', Nx H' → ∃ m', m' < m ∧ W (i + 1) m' H') ∧ ∀ x H', J.yld i H x H' → g x (wipe σ vs) H' fun σ2 H2 => wipe σ2 vs = wipe σ vs ∧ tt σ2 H2 fun b H3 =>
    if b = true then el σ2 H3 fun y H4 => ∃ acc, H4 D = some (.lst acc) ∧ acc.length < sizeLine ∧ Nx (upd H4 D (.lst (acc ++ [y]))) else Nx H3)
theorem rd_lcL (k : te σ H fun x H1 => ∃ a, x = .ref a ∧ (∃ xs, SqL K H1 a xs) ∧ Lc (Itl K a) g tt el vs σ Q H1) : tLc (iList K te) g tt el vs σ H Q := k
theorem rd_lcV (k : tr σ H fun ws H1 => ∃ (a : Addr) (xs : List V), ws = [.ref a] ∧ SqL K H1 a xs ∧ Lc (Itv K a xs.length) g tt el vs σ Q H1) : tLc (iRev K tr) g tt el vs σ H Q := k
theorem rd_lcR (k : tr σ H fun ws H1 => ∃ j : Int, ws = [.int j] ∧ -(2 ^ 62) ≤ j ∧ j < 2 ^ 62 ∧ Lc (Itr 0 j.toNat) g tt el vs σ Q H1) : tLc (iRng1 tr) g tt el vs σ H Q := k
theorem lc_a {a : Addr} {xs : List V} {P : Addr → Prop} (h : SqL K H a xs) (k : P a) : ∃ b, V.ref a = .ref b ∧ (∃ xs, SqL K H b xs) ∧ P b := ⟨a, rfl, ⟨xs, h⟩, k⟩
theorem lc_v {a : Addr} {xs : List V} {P : Addr → List V → Prop} (h : SqL K H a xs) (k : P a xs) : ∃ (b : Addr) (ys : List V), [V.ref a] = [.ref b] ∧ SqL K H b ys ∧ P b ys := ⟨a, xs, rfl, h, k⟩
theorem lc_r {n : Nat} {P : Int → Prop} (hn : n < 2 ^ 62) (k : P (n : Int)) : ∃ j : Int, [V.int (n : Int)] = [.int j] ∧ -(2 ^ 62) ≤ j ∧ j < 2 ^ 62 ∧ P j := ⟨n, rfl, by omega, by omega, k⟩
/-- which turns give, and what -/
def given (n : Nat) (f : Nat → Bool) (v : Nat → V) : List V := ((List.range n).filter f).map v
theorem given_yes (h : f n = true) : given (n + 1) f v = given n f v ++ [v n] := by
  unfold given
  rw [List.range_succ, List.filter_append, List.map_append, List.filter_cons, if_pos h] <;> rfl
theorem given_no (h : f n = false) : given (n + 1) f v = given n f v := by
  unfold given
  rw [List.range_succ, List.filter_append, List.map_append, List.filter_cons, if_neg (by rw [h]; decide)]
  show _ ++ [] = _
  rw [List.append_nil]
theorem given_len (n : Nat) (f : Nat → Bool) (v : Nat → V) : (given n f v).length ≤ n := by
  unfold given
  rw [List.length_map]
  have h := List.length_filter_le f (List.range n)
  rw [List.length_range] at h
  exact h
def Cp (H1 : Hp) (D : Addr) (f : Nat → Bool) (v : Nat → V) (i : Nat) (H' : Hp) : Prop := H1 D = none ∧ Same H1 H' ∧ H' D = some (.lst (given i f v))
theorem cp_yes (p : Cp H1 D f v i H') (sm : Same H' H4) (hi : i < 100000) (hf : f i = true) (hy : y = v i) : ∃ acc, H4 D = some (.lst acc) ∧ acc.length < sizeLine ∧ Cp H1 D f v (i + 1) (upd H4 D (.lst (acc ++ [y]))) := by
  obtain ⟨p1, p2, p3⟩ := p
  refine ⟨given i f v, sm _ _ p3, Nat.lt_of_le_of_lt (given_len i f v) (Nat.lt_of_lt_of_le hi (by decide)), p1, same_mut (p2.trans sm) p1, ?_⟩
  rw [given_yes hf, hy]
  exact upd_same
theorem cp_no (p : Cp H1 D f v i H') (sm : Same H' H4) (hf : f i = false) : Cp H1 D f v (i + 1) H4 := by
  obtain ⟨p1, p2, p3⟩ := p
  refine ⟨p1, p2.trans sm, ?_⟩
  rw [given_no hf]
  exact sm _ _ p3
theorem walk_rg {n : Nat} : Walk (Itr 0 n) n (fun _ => True) (fun i H x H' => H' = H ∧ x = .int (i : Int)) :=
  ⟨fun _ _ hi _ => hi, fun _ _ => Nat.le_refl _, fun i _ _ _ _ _ y => ⟨y.1, y.2.trans (by rw [Int.zero_add])⟩⟩
/-- a comprehension of plain values -/
theorem lc_pure (w : Walk J n G Y) (f : Nat → Bool) (v : Nat → V) (hG : ∀ H', Same H1 H' → G H')
    (hs : ∀ D i x H H', i < n → Cp H1 D f v i H → Y i H x H' → g x (wipe σ vs) H' fun σ2 H2 => wipe σ2 vs = wipe σ vs ∧ tt σ2 H2 fun b H3 =>
      if b = true then el σ2 H3 fun y H4 => ∃ acc, H4 D = some (.lst acc) ∧ acc.length < sizeLine ∧ Cp H1 D f v (i + 1) (upd H4 D (.lst (acc ++ [y]))) else Cp H1 D f v (i + 1) H3)
    (hd : ∀ D H', H1 D = none → Same H1 H' → H' D = some (.lst (given n f v)) → Q (.ref D) H') : Lc J g tt el vs σ Q H1 := fun D hD =>
  lc_it w (Cp H1 D f v) ⟨hD, same_upd hD, upd_same⟩ (fun i H _ p => hG H p.2.1) (fun i x H H' hi p y => hs D i x H H' hi p y) fun H p => hd D H p.1 p.2.1 p.2.2
/-- a list of lists at a -/
def LL (H : Hp) (a : Addr) (ws : List (List V)) : Prop := ∃ ps : List Addr, H a = some (.lst (ps.map V.ref)) ∧ ps.length = ws.length ∧ ∀ (j : Nat) (p : Addr) (w : List V), ps[j]? = some p → ws[j]? = some w → H p = some (.lst w)
theorem LL.same {a : Addr} {ws : List (List V)} (h : LL H a ws) (sm : Same H H') : LL H' a ws := by
  obtain ⟨ps, h1, h2, h3⟩ := h
  exact ⟨ps, sm _ _ h1, h2, fun j p w a b => sm _ _ (h3 j p w a b)⟩
theorem LL.at {a : Addr} {ws : List (List V)} {j : Nat} {w : List V} (h : LL H a ws) (e : ws[j]? = some w) : ∃ (xs : List V) (p : Addr), H a = some (.lst xs) ∧ xs.length = ws.length ∧ xs[j]? = some (.ref p) ∧ H p = some (.lst w) := by
  obtain ⟨ps, h1, h2, h3⟩ := h
  obtain ⟨hj, _⟩ := List.getElem?_eq_some_iff.mp e
  have hp : ps[j]? = some (ps[j]'(by omega)) := List.getElem?_eq_getElem (by omega)
  exact ⟨_, _, h1, by rw [List.length_map, h2], by rw [List.getElem?_map, hp]; rfl, h3 j _ w hp e⟩
theorem LL.len {a : Addr} {ws : List (List V)} (h : LL H a ws) : ∃ xs : List V, H a = some (.lst xs) ∧ xs.length = ws.length := by
  obtain ⟨ps, h1, h2, h3⟩ := h
  exact ⟨_, h1, by rw [List.length_map, h2]⟩
theorem LL.cat {a b c : Addr} {ws us : List (List V)} {xs ys : List V} (h : LL H a ws) (h' : LL H b us) (e : H a = some (.lst xs)) (e' : H b = some (.lst ys)) (hc : H c = none) : LL (upd H c (.lst (xs ++ ys))) c (ws ++ us) := by
  obtain ⟨ps, h1, h2, h3⟩ := h
  obtain ⟨qs, k1, k2, k3⟩ := h'
  rw [h1] at e
  rw [k1] at e'
  cases e
  cases e'
  refine ⟨ps ++ qs, by rw [upd_same, List.map_append], by rw [List.length_append, List.length_append, h2, k2], fun j p w ej ew => ?_⟩
  have hp : H p = some (.lst w) := by
    by_cases hj : j < ps.length
    · rw [List.getElem?_append_left hj] at ej
      rw [List.getElem?_append_left (by omega)] at ew
      exact h3 j p w ej ew
    · rw [List.getElem?_append_right (by omega)] at ej
      rw [List.getElem?_append_right (by omega), ← h2] at ew
      exact k3 _ p w ej ew
  rw [upd_ne (ne_of_none hp hc)]
  exact hp
theorem LL_one {H : Hp} {a p : Addr} {w : List V} (h : H a = some (.lst [.ref p])) (hp : H p = some (.lst w)) : LL H a [w] := by
  refine ⟨[p], h, rfl, fun j q u e e2 => ?_⟩
  have hj : j = 0 := by
    have := (List.getElem?_eq_some_iff.mp e).1
    rw [List.length_singleton] at this
    omega
  subst hj
  cases e
  cases e2
  exact hp
/-- behind i turns: i lists, each of its own, none of them the new list itself -/
def Cl (H1 : Hp) (D : Addr) (ws : Nat → List V) (i : Nat) (H' : Hp) : Prop := H1 D = none ∧ Same H1 H' ∧ ∃ ps : List Addr, H' D = some (.lst (ps.map V.ref)) ∧ ps.length = i ∧ ∀ (j : Nat) (p : Addr), ps[j]? = some p → p ≠ D ∧ H' p = some (.lst (ws j))
theorem cl_new {ws : Nat → List V} {p : Addr} (c : Cl H1 D ws i H') (sm : Same H' H4) (hi : i < 100000) (hp : H4 p = some (.lst (ws i))) (hpD : p ≠ D) :
    ∃ acc, H4 D = some (.lst acc) ∧ acc.length < sizeLine ∧ Cl H1 D ws (i + 1) (upd H4 D (.lst (acc ++ [.ref p]))) := by
  obtain ⟨c1, c2, ps, h1, h2, h3⟩ := c
  refine ⟨ps.map V.ref, sm _ _ h1, Nat.lt_of_le_of_lt (by rw [List.length_map, h2]; exact Nat.le_refl _) (Nat.lt_of_lt_of_le hi (by decide)), c1, same_mut (c2.trans sm) c1, ps ++ [p], by rw [upd_same, List.map_append]; rfl, by rw [List.length_append, h2]; rfl, fun j q e => ?_⟩
  by_cases hj : j < ps.length
  · rw [List.getElem?_append_left hj] at e
    obtain ⟨k1, k2⟩ := h3 j q e
    exact ⟨k1, by rw [upd_ne k1]; exact sm _ _ k2⟩
  · rw [List.getElem?_append_right (by omega)] at e
    have hj2 : j - ps.length = 0 := by
      have := (List.getElem?_eq_some_iff.mp e).1
      rw [List.length_singleton] at this
      omega
    rw [hj2] at e
    cases e
    have : j = i := by omega
    subst this
    exact ⟨hpD, by rw [upd_ne hpD]; exact hp⟩
/-- a comprehension whose every turn gives a new list -/
theorem lc_lists (w : Walk J n G Y) (ws : Nat → List V) (hG : ∀ H', Same H1 H' → G H')
    (hs : ∀ D i x H H', i < n → Cl H1 D ws i H → Y i H x H' → g x (wipe σ vs) H' fun σ2 H2 => wipe σ2 vs = wipe σ vs ∧ tt σ2 H2 fun b H3 =>
      if b = true then el σ2 H3 fun y H4 => ∃ acc, H4 D = some (.lst acc) ∧ acc.length < sizeLine ∧ Cl H1 D ws (i + 1) (upd H4 D (.lst (acc ++ [y]))) else Cl H1 D ws (i + 1) H3)
    (hd : ∀ D H', H1 D = none → Same H1 H' → LL H' D ((List.range n).map ws) → Q (.ref D) H') : Lc J g tt el vs σ Q H1 := fun D hD =>
  lc_it w (Cl H1 D ws) ⟨hD, same_upd hD, [], by rw [upd_same]; rfl, rfl, fun j p e => by simp at e⟩ (fun i H _ p => hG H p.2.1) (fun i x H H' hi p y => hs D i x H H' hi p y) fun H p => by
    obtain ⟨c1, c2, ps, h1, h2, h3⟩ := p
    refine hd D H c1 c2 ⟨ps, h1, by rw [List.length_map, List.length_range, h2], fun j q u e e2 => ?_⟩
    have hj : j < n := by
      have := (List.getElem?_eq_some_iff.mp e).1
      omega
    rw [List.getElem?_map, List.getElem?_range hj] at e2
    cases e2
    exact (h3 j q e).2
theorem Cl.same (c : Cl H1 D ws i H') : Same H1 H' := c.2.1
theorem Cl.new (c : Cl H1 D ws i H') : ∃ xs, H' D = some (.lst xs) := by
  obtain ⟨c1, c2, ps, h1, h2, h3⟩ := c
  exact ⟨_, h1⟩
theorem tt_yes {Q : Bool → Hp → Prop} (k : Q true H) : tYes σ H Q := k
/-- what the turns of a comprehension over a list of naturals give -/
theorem given_filter (l : List Nat) (p : Nat → Bool) : given l.length (fun i => p (l.getD i 0)) (fun i => V.int ((l.getD i 0 : Nat) : Int)) = (zs (l.filter p)).map V.int := by
  have e : l = (List.range l.length).map (fun i => l.getD i 0) := by
    apply List.ext_getElem?
    intro j
    by_cases h : j < l.length
    · rw [List.getElem?_map, List.getElem?_range h, List.getElem?_eq_getElem h]
      show some l[j] = some (l.getD j 0)
      rw [List.getD_eq_getElem?_getD, List.getElem?_eq_getElem h]
      rfl
    · rw [List.getElem?_eq_none (by omega), List.getElem?_eq_none (by rw [List.length_map, List.length_range]; omega)]
  have e2 : l.filter p = ((List.range l.length).filter (p ∘ fun i => l.getD i 0)).map (fun i => l.getD i 0) := by
    have h : ((List.range l.length).map (fun i => l.getD i 0)).filter p = ((List.range l.length).filter (p ∘ fun i => l.getD i 0)).map (fun i => l.getD i 0) := List.filter_map
    rw [← e] at h
    exact h
  rw [e2]
  unfold given zs
  rw [List.map_map, List.map_map]
  rfl
theorem given_out (A B : List Nat) : given A.length (fun i => !B.contains (A.getD i 0)) (fun i => V.int ((A.getD i 0 : Nat) : Int)) = (zs (A.filter (fun x => !B.contains x))).map V.int := given_filter A fun x => !B.contains x
theorem dec_beq (x g : Nat) : decide ((x : Int) = (g : Int)) = (x == g) := by
  by_cases h : x = g
  · rw [decide_eq_true (by omega), beq_iff_eq.mpr h]
  · rw [decide_eq_false (by omega), beq_eq_false_iff_ne.mpr h]
theorem given_but (A : List Nat) (g : Nat) : given A.length (fun i => !(A.getD i 0 == g)) (fun i => V.int ((A.getD i 0 : Nat) : Int)) = (zs (A.filter (fun x => !(x == g)))).map V.int := given_filter A fun x => !(x == g)
theorem getD_at {l : List Nat} {i x : Nat} (h : l[i]? = some x) : l.getD i 0 = x := by
  rw [List.getD_eq_getElem?_getD, h]
  rfl
theorem zs_get {l : List Nat} {i : Nat} {v : V} (h : ((zs l).map V.int)[i]? = some v) : v = .int ((l.getD i 0 : Nat) : Int) := by
  rw [List.getElem?_map] at h
  unfold zs at h
  rw [List.getElem?_map] at h
  cases e : l[i]? with
  | none =>
    rw [e] at h
    cases h
  | some x =>
    rw [e] at h
    cases h
    rw [getD_at e]
theorem zs_got {l : List Nat} {i : Nat} {v : V} (h : ((zs l).map V.int)[i]? = some v) : ∃ x, l[i]? = some x ∧ v = .int (x : Int) := by
  rw [List.getElem?_map] at h
  unfold zs at h
  rw [List.getElem?_map] at h
  cases e : l[i]? with
  | none =>
    rw [e] at h
    cases h
  | some x =>
    rw [e] at h
    cases h
    exact ⟨x, rfl, rfl⟩
theorem flat_zs : ∀ l : List Nat, ((zs l).map V.int).all flatV = true
  | [] => rfl
  | x :: l => by
    rw [zs_cons, List.all_cons, flat_zs l]
    rfl
theorem inV_zs (x : Nat) : ∀ l : List Nat, inV (.int (x : Int)) ((zs l).map V.int) = l.contains x
  | [] => rfl
  | y :: l => by
    have ih := inV_zs x l
    have e : inV (.int (x : Int)) ((zs (y :: l)).map V.int) = (eqV (.int (y : Int)) (.int (x : Int)) || inV (.int (x : Int)) ((zs l).map V.int)) := rfl
    rw [e, ih, List.contains_cons]
    congr 1
    show (((y : Int)) == ((x : Int))) = (x == y)
    by_cases h : x = y
    · subst h
      simp
    · rw [beq_eq_false_iff_ne.mpr h, beq_eq_false_iff_ne.mpr (by omega)]
theorem rd_notin {b : Addr} {l : List Nat} {x : Nat} (h : SqL K H b ((zs l).map V.int)) (k : Q (.bl (!l.contains x)) H) : rIn K true (.int (x : Int)) (.ref b) H Q :=
  ⟨b, _, rfl, .inl h, rfl, flat_zs l, by rw [inV_zs]; exact k⟩
theorem rd_isin {b : Addr} {l : List Nat} {x : Nat} (h : SqL K H b ((zs l).map V.int)) (k : Q (.bl (l.contains x)) H) : rIn K false (.int (x : Int)) (.ref b) H Q :=
  ⟨b, _, rfl, .inl h, rfl, flat_zs l, by rw [inV_zs]; exact k⟩
end
end One
/-! ### ranges backwards, lists of tuples, slices -/
namespace One
open PySem L2
section
variable {K : PySem.W.Frag} {σ : L2.St} {H H' : Hp} {Q : VK} {D : Ends} {ta tb : TE} {g : TG} {tb' : TS}
def RRR (g : TG) (tb : TS) (D : Ends) (σ : L2.St) (a b : Int) (H : Hp) : Prop := -(2 ^ 62) ≤ a ∧ a < 2 ^ 62 ∧ -(2 ^ 62) ≤ b ∧ b < 2 ^ 62 ∧ ∃ W : Nat → Nat → L2.St → Hp → Prop, (∃ m, W 0 m σ H) ∧ ∀ i m σ H, W i m σ H →
  ((Itc (a + (((b - a).toNat : Nat) : Int) - 1) (-1) (b - a).toNat).stop i H ∧ D.nx σ H) ∨ ((Itc (a + (((b - a).toNat : Nat) : Int) - 1) (-1) (b - a).toNat).go i H ∧ ∃ N : L2.St → Hp → Prop, (∀ σ' H', N σ' H' → ∃ m', m' < m ∧ W (i + 1) m' σ' H') ∧
    ∀ x H', (Itc (a + (((b - a).toNat : Nat) : Int) - 1) (-1) (b - a).toNat).yld i H x H' → g x σ H' fun σ2 H2 => tb { D with nx := N, ct := N, bk := D.nx } σ2 H2)
theorem rd_forRR {tr : L2.St → Hp → (Int → Int → Hp → Prop) → Prop} {tb : TS} (k : tr σ H fun a b H1 => RRR g tb D σ a b H1) : tFor (iRevR tr) g tb D σ H := k
theorem rd_rg2 {Q : Int → Int → Hp → Prop} (k : ta σ H fun x H1 => tb σ H1 fun y H2 => ∃ i j, x = .int i ∧ y = .int j ∧ Q i j H2) : tRg2 ta tb σ H Q := k
theorem rd_rg1 {Q : Int → Int → Hp → Prop} (k : ta σ H fun x H1 => ∃ n, x = .int n ∧ Q 0 n H1) : tRg1 ta σ H Q := k
theorem rd_ij {a b : Int} {P : Int → Int → Prop} (k : P a b) : ∃ i j, V.int a = .int i ∧ V.int b = .int j ∧ P i j := ⟨a, b, rfl, rfl, k⟩
theorem rd_lstRg {te : L2.St → Hp → (Int → Int → Hp → Prop) → Prop} (k : te σ H fun a b H1 => RgOk a b ∧ ∀ q, H1 q = none → Q (.ref q) (upd H1 q (.lst (rgV a b)))) : tLstRg te σ H Q := k
/-- for i in reversed(range(1, n + 1)) -/
theorem forRR {tb : TS} {j n : Nat} (hn : n ≤ 1000) (Pv : Nat → L2.St → Hp → Prop) (h0 : Pv 0 σ H)
    (hs : ∀ i σ H, i < n → Pv i σ H → tb { D with nx := Pv (i + 1), ct := Pv (i + 1), bk := D.nx } (σ.set j (some (.int ((n - i : Nat) : Int)))) H) (hd : ∀ σ H, Pv n σ H → D.nx σ H) : RRR (gName j) tb D σ 1 ((n : Int) + 1) H := by
  have e : ((n : Int) + 1 - 1).toNat = n := by omega
  refine ⟨by omega, by omega, by omega, by omega, ?_⟩
  rw [e]
  refine for_it walk_rangeC Pv h0 (fun _ _ _ _ _ => True.intro) (fun i x σ H H' hi p y => ?_) hd
  obtain ⟨rfl, rfl⟩ := y
  have e2 : (1 : Int) + (n : Int) - 1 + (i : Int) * (-1) = ((n - i : Nat) : Int) := by omega
  show tb { D with nx := Pv (i + 1), ct := Pv (i + 1), bk := D.nx } (σ.set j (some (.int (1 + (n : Int) - 1 + (i : Int) * (-1))))) _
  rw [e2]
  exact hs i σ _ hi p
/-- a list of tuples at a -/
def TL (H : Hp) (a : Addr) (ws : List (List V)) : Prop := ∃ ps : List Addr, H a = some (.lst (ps.map V.ref)) ∧ ps.length = ws.length ∧ ∀ (j : Nat) (p : Addr) (w : List V), ps[j]? = some p → ws[j]? = some w → H p = some (.tup w)
theorem TL.same {a : Addr} {ws : List (List V)} (h : TL H a ws) (sm : Same H H') : TL H' a ws := by
  obtain ⟨ps, h1, h2, h3⟩ := h
  exact ⟨ps, sm _ _ h1, h2, fun j p w a b => sm _ _ (h3 j p w a b)⟩
theorem TL.len {a : Addr} {ws : List (List V)} (h : TL H a ws) : ∃ xs : List V, H a = some (.lst xs) ∧ xs.length = ws.length := by
  obtain ⟨ps, h1, h2, h3⟩ := h
  exact ⟨_, h1, by rw [List.length_map, h2]⟩
theorem TL.at {a : Addr} {ws : List (List V)} {xs : List V} {j : Nat} {x : V} {w : List V} (h : TL H a ws) (hx : H a = some (.lst xs)) (ex : xs[j]? = some x) (e : ws[j]? = some w) : ∃ p : Addr, x = .ref p ∧ H p = some (.tup w) := by
  obtain ⟨ps, h1, h2, h3⟩ := h
  rw [h1] at hx
  cases hx
  rw [List.getElem?_map] at ex
  cases hp : ps[j]? with
  | none =>
    rw [hp] at ex
    cases ex
  | some p =>
    rw [hp] at ex
    cases ex
    exact ⟨p, rfl, h3 j p w hp e⟩
theorem TL.app {a p : Addr} {ws : List (List V)} {xs w : List V} (h : TL H a ws) (hx : H a = some (.lst xs)) (hp : H p = some (.tup w)) : TL (upd H a (.lst (xs ++ [.ref p]))) a (ws ++ [w]) := by
  obtain ⟨ps, h1, h2, h3⟩ := h
  rw [h1] at hx
  cases hx
  refine ⟨ps ++ [p], by rw [upd_same, List.map_append]; rfl, by rw [List.length_append, List.length_append, h2]; rfl, fun j q u e e2 => ?_⟩
  have hq : H q = some (.tup u) := by
    by_cases hj : j < ps.length
    · rw [List.getElem?_append_left hj] at e
      rw [List.getElem?_append_left (by omega)] at e2
      exact h3 j q u e e2
    · rw [List.getElem?_append_right (by omega)] at e
      rw [List.getElem?_append_right (by omega), ← h2] at e2
      have hj2 : j - ps.length = 0 := by
        have := (List.getElem?_eq_some_iff.mp e).1
        rw [List.length_singleton] at this
        omega
      rw [hj2] at e e2
      cases e
      cases e2
      exact hp
  rw [upd_ne (ne_of hq h1 (by intro z; cases z))]
  exact hq
theorem tup3 {i j l : Nat} {q : Addr} {x y z : V} {N : L2.St → Hp → Prop} (h : SqT K H q [x, y, z]) (k : N (((σ.set i (some x)).set j (some y)).set l (some z)) H) : gTup K 3 (gCons (gName i) (gCons (gName j) (gCons (gName l) gNil))) (.ref q) σ H N :=
  ⟨q, _, rfl, h, rfl, x, _, rfl, y, _, rfl, z, _, rfl, rfl, k⟩
theorem tup2 {i j : Nat} {q : Addr} {x y : V} {N : L2.St → Hp → Prop} (h : SqT K H q [x, y]) (k : N ((σ.set i (some x)).set j (some y)) H) : gTup K 2 (gCons (gName i) (gCons (gName j) gNil)) (.ref q) σ H N :=
  ⟨q, _, rfl, h, rfl, x, _, rfl, y, _, rfl, rfl, k⟩
/-- xs[:k], xs[k:] -/
theorem cut_to (xs : List V) (k : Nat) : cutV xs none (some (k : Int)) = xs.take k := by
  unfold cutV
  rw [HT.sIx_nat, HT.sIx_none, List.drop_zero, Nat.sub_zero]
  by_cases h : k ≤ xs.length
  · rw [Nat.min_eq_left h]
  · rw [Nat.min_eq_right (by omega), List.take_length, List.take_of_length_le (by omega)]
theorem cut_from (xs : List V) (k : Nat) : cutV xs (some (k : Int)) none = xs.drop k := by
  unfold cutV
  rw [HT.sIx_nat, HT.sIx_none]
  by_cases h : k ≤ xs.length
  · rw [Nat.min_eq_left h, List.take_of_length_le (by rw [List.length_drop]; exact Nat.le_refl _)]
  · rw [Nat.min_eq_right (by omega), List.drop_length, List.drop_of_length_le (by omega), List.take_nil]
theorem rd_slice {a : Addr} {xs : List V} {P : Addr → List V → Prop} (h : SqL K H a xs) (k : P a xs) : ∃ b ys, V.ref a = .ref b ∧ SqL K H b ys ∧ P b ys := ⟨a, xs, rfl, h, k⟩
theorem rgV_zs (n : Nat) : rgV 0 (n : Int) = (zs (List.range n)).map V.int := by
  unfold rgV zs
  rw [List.map_map, show ((n : Int) - 0).toNat = n by omega]
  apply List.map_congr_left
  intro x _
  show V.int (0 + (x : Int)) = V.int (x : Int)
  rw [Int.zero_add]
theorem zs_append (A B : List Nat) : (zs (A ++ B)).map V.int = (zs A).map V.int ++ (zs B).map V.int := by
  unfold zs
  rw [List.map_append, List.map_append]
theorem zs_take (A : List Nat) (i : Nat) : (zs (A.take i)).map V.int = ((zs A).map V.int).take i := by
  unfold zs
  rw [List.map_take, List.map_take]
theorem zs_drop (A : List Nat) (i : Nat) : (zs (A.drop i)).map V.int = ((zs A).map V.int).drop i := by
  unfold zs
  rw [List.map_drop, List.map_drop]
end
/-- two sorted lists of the same things are one -/
theorem sorted_one : ∀ {A B : List Int}, A.Perm B → A.Pairwise (· ≤ ·) → B.Pairwise (· ≤ ·) → A = B
  | [], B, p, _, _ => by
    have := p.length_eq
    cases B with
    | nil => rfl
    | cons b B => simp at this
  | a :: A, [], p, _, _ => by
    have := p.length_eq
    simp at this
  | a :: A, b :: B, p, hA, hB => by
    obtain ⟨a1, a2⟩ := List.pairwise_cons.mp hA
    obtain ⟨b1, b2⟩ := List.pairwise_cons.mp hB
    have e : a = b := by
      have h1 : a ∈ b :: B := p.mem_iff.mp (by simp)
      have h2 : b ∈ a :: A := p.mem_iff.mpr (by simp)
      rcases List.mem_cons.mp h1 with q | q
      · exact q
      · rcases List.mem_cons.mp h2 with r | r
        · exact r.symm
        · have := a1 b r
          have := b1 a q
          omega
    subst e
    rw [sorted_one (List.Perm.cons_inv p) a2 b2]
theorem sorted_range {o : List Nat} {n : Nat} {S : List Int} (pm : S.Perm (zs o)) (h : o.Perm (List.range n)) (st : S.Pairwise (· ≤ ·)) : S = zs (List.range n) := by
  refine sorted_one (pm.trans (h.map _)) st ?_
  unfold zs
  refine List.pairwise_map.mpr ?_
  exact List.pairwise_lt_range.imp fun h => by omega
end One
namespace One
open PySem L2
section
variable {K : PySem.W.Frag} {J : It} {n : Nat} {G : Hp → Prop} {Y : Nat → Hp → V → Hp → Prop} {σ : L2.St} {H H1 H' H4 : Hp} {Q : VK} {g : TG} {tt : TT} {te el : TE} {vs : List Nat} {ws : Nat → List V} {D : Addr} {i : Nat}
/-- behind i turns: i tuples -/
def Ct (H1 : Hp) (D : Addr) (ws : Nat → List V) (i : Nat) (H' : Hp) : Prop := H1 D = none ∧ Same H1 H' ∧ TL H' D ((List.range i).map ws)
theorem ct_new {p : Addr} (c : Ct H1 D ws i H') (sm : Same H' H4) (hi : i < 100000) (hp : H4 p = some (.tup (ws i))) :
    ∃ acc, H4 D = some (.lst acc) ∧ acc.length < sizeLine ∧ Ct H1 D ws (i + 1) (upd H4 D (.lst (acc ++ [.ref p]))) := by
  obtain ⟨c1, c2, c3⟩ := c
  obtain ⟨xs, hx, hl⟩ := (c3.same sm).len
  rw [List.length_map, List.length_range] at hl
  refine ⟨xs, hx, Nat.lt_of_le_of_lt (Nat.le_of_eq hl) (Nat.lt_of_lt_of_le hi (by decide)), c1, same_mut (c2.trans sm) c1, ?_⟩
  rw [List.range_succ, List.map_append]
  exact (c3.same sm).app hx hp
/-- a comprehension whose every turn gives a new tuple -/
theorem lc_tups (w : Walk J n G Y) (ws : Nat → List V) (hG : ∀ H', Same H1 H' → G H')
    (hs : ∀ D i x H H', i < n → Ct H1 D ws i H → Y i H x H' → g x (wipe σ vs) H' fun σ2 H2 => wipe σ2 vs = wipe σ vs ∧ tt σ2 H2 fun b H3 =>
      if b = true then el σ2 H3 fun y H4 => ∃ acc, H4 D = some (.lst acc) ∧ acc.length < sizeLine ∧ Ct H1 D ws (i + 1) (upd H4 D (.lst (acc ++ [y]))) else Ct H1 D ws (i + 1) H3)
    (hd : ∀ D H', H1 D = none → Same H1 H' → TL H' D ((List.range n).map ws) → Q (.ref D) H') : Lc J g tt el vs σ Q H1 := fun D hD =>
  lc_it w (Ct H1 D ws) ⟨hD, same_upd hD, [], by rw [upd_same]; rfl, rfl, fun j p w e => by simp at e⟩ (fun i H _ p => hG H p.2.1) (fun i x H H' hi p y => hs D i x H H' hi p y) fun H p => hd D H p.1 p.2.1 p.2.2
/-- the second part of a pair -/
def keyOf (H : Hp) : V → Nat
  | .ref t => match H t with
    | some (.tup [_, .int k]) => k.toNat
    | _ => 0
  | _ => 0
theorem keyOf_at {t : Addr} {x : V} {k : Nat} (h : H t = some (.tup [x, .int (k : Int)])) : keyOf H (.ref t) = k := by
  show (match H t with
    | some (.tup [_, .int k]) => k.toNat
    | _ => 0) = k
  rw [h]
  exact Int.toNat_natCast k
theorem TL.keys {a : Addr} {xs : List V} {w : Nat → V} (h : TL H a ((List.range n).map fun j => [w j, V.int (j : Int)])) (hx : H a = some (.lst xs)) : xs.map (keyOf H) = List.range n ∧ ∀ x ∈ xs, ∃ (t : Addr) (k j : Nat), x = .ref t ∧ j < n ∧ k = j ∧ H t = some (.tup [w j, .int (k : Int)]) := by
  obtain ⟨ps, h1, h2, h3⟩ := h
  rw [List.length_map, List.length_range] at h2
  rw [h1] at hx
  cases hx
  have at_ : ∀ j p, ps[j]? = some p → j < n ∧ H p = some (.tup [w j, .int (j : Int)]) := fun j p e => by
    have hj : j < n := by
      have := (List.getElem?_eq_some_iff.mp e).1
      omega
    exact ⟨hj, h3 j p _ e (by rw [List.getElem?_map, List.getElem?_range hj]; rfl)⟩
  constructor
  · apply List.ext_getElem?
    intro j
    rw [List.getElem?_map, List.getElem?_map]
    cases e : ps[j]? with
    | none =>
      rw [List.getElem?_eq_none (by rw [List.length_range]; have := List.getElem?_eq_none_iff.mp e; omega)]
      rfl
    | some p =>
      obtain ⟨hj, hp⟩ := at_ j p e
      rw [List.getElem?_range hj]
      show some (keyOf H (.ref p)) = some j
      rw [keyOf_at hp]
  · intro x hx
    rw [List.mem_map] at hx
    obtain ⟨p, hp, rfl⟩ := hx
    obtain ⟨j, hj, e⟩ := List.getElem_of_mem hp
    obtain ⟨hjn, hq⟩ := at_ j p (by rw [List.getElem?_eq_getElem hj, e])
    exact ⟨p, j, j, rfl, hjn, rfl, hq⟩
theorem given_all {α : Type} (ys : List α) (d : α) (w : α → V) : given ys.length (fun _ => true) (fun i => w (ys.getD i d)) = ys.map w := by
  unfold given
  rw [List.filter_eq_self.mpr (fun _ _ => rfl)]
  apply List.ext_getElem?
  intro j
  by_cases h : j < ys.length
  · rw [List.getElem?_map, List.getElem?_range h, List.getElem?_map, List.getElem?_eq_getElem h]
    show some (w (ys.getD j d)) = some (w ys[j])
    rw [List.getD_eq_getElem?_getD, List.getElem?_eq_getElem h]
    rfl
  · rw [List.getElem?_eq_none (by rw [List.length_map, List.length_range]; omega), List.getElem?_eq_none (by rw [List.length_map]; omega)]
end
end One
/-! ### a dict whose keys are tuples of numbers -/
namespace One
open PySem L2
section
variable {K : PySem.W.Frag} {σ : L2.St} {H H' : Hp} {Q : VK} {D : Ends} {ty td tv : TE}
def keyI (l : List Nat) : List L2.Key := (zs l).map Sum.inl
theorem keyI_V (l : List Nat) : (keyI l).map kV = (zs l).map V.int := by
  unfold keyI
  rw [List.map_map]
  rfl
theorem keyI_inj : ∀ {a b : List Nat}, keyI a = keyI b → a = b
  | [], [], _ => rfl
  | [], _ :: _, h => by cases h
  | _ :: _, [], h => by cases h
  | x :: a, y :: b, h => by
    have h1 : (Sum.inl (x : Int) : L2.Key) = Sum.inl (y : Int) := (List.cons.inj h).1
    have h2 : keyI a = keyI b := (List.cons.inj h).2
    have h3 : (x : Int) = (y : Int) := Sum.inl.inj h1
    rw [keyI_inj h2, show x = y by omega]
theorem rd_newT (k : ∀ p, H p = none → Q (.ref p) (upd H p (.dT []))) : tDNewT σ H Q := k
theorem rd_din (k : ty σ H fun y H1 => td σ H1 fun x H2 => ∃ a o, x = .ref a ∧ DGet H2 a y o ∧ Q (.bl o.isSome) H2) : tDIn ty td σ H Q := k
theorem rd_dput (k : tv σ H fun v H1 => td σ H1 fun x H2 => ty σ H2 fun y H3 => ∃ a H4, x = .ref a ∧ DPut H3 a y v H4 ∧ D.nx σ H4) : sDPut td ty tv D σ H := k
theorem din_at {a b : Addr} {kvs : List (List L2.Key × V)} {l : List Nat} {P : Option V → Prop} (h : H a = some (.dT kvs)) (hb : H b = some (.tup ((zs l).map V.int))) (k : P (valV kvs (keyI l))) : ∃ a' o, V.ref a = .ref a' ∧ DGet H a' (.ref b) o ∧ P o :=
  ⟨a, _, rfl, DGet.t h (by rw [keyI_V]; exact hb), k⟩
theorem dput_at {a b : Addr} {kvs : List (List L2.Key × V)} {l : List Nat} {v : V} {N : L2.St → Hp → Prop} (h : H a = some (.dT kvs)) (hb : H b = some (.tup ((zs l).map V.int))) (hl : kvs.length < 100000) (k : N σ (upd H a (.dT (putK kvs (keyI l) v)))) : ∃ a' H4, V.ref a = .ref a' ∧ DPut H a' (.ref b) v H4 ∧ N σ H4 :=
  ⟨a, _, rfl, DPut.t h (by rw [keyI_V]; exact hb) (Nat.lt_of_lt_of_le hl (by decide)), k⟩
theorem rd_tupOf {a : Addr} {xs : List V} {P : Addr → List V → Prop} {R : Addr → List V → Prop} (h : SqL K H a xs) (k : ∀ l, H l = none → P l xs) : ∃ p ys, [V.ref a] = [.ref p] ∧ ((SqL K H p ys ∧ ∀ l, H l = none → P l ys) ∨ R p ys) := ⟨a, xs, rfl, .inl ⟨h, k⟩⟩
/-- equal pairs -/
def dTup (ns : List Int) : PyData := .tuple (ns.map PyData.int)
theorem shp_tup (ns : List Int) : SeqAt.shaped (dTup ns) = true := by
  have e : (dTup ns).depth = 1 := by
    show PyData.depthAll (ns.map PyData.int) + 1 = 1
    rw [dep_ints]
  have e2 : (dTup ns).canLay0 = true := cl_ints ns
  unfold SeqAt.shaped
  rw [e2, e]
  rfl
theorem rd_neT {a b : Addr} {ns : List Int} (ha : SqT K H a (ns.map V.int)) (hb : SqT K H b (ns.map V.int)) (k : Q (.bl false) H) : rNeD K (.ref a) (.ref b) H Q :=
  ⟨dTup ns, dTup ns, .tup ha (dpA_int ns), .tup hb (dpA_int ns), shp_tup ns, shp_tup ns, by rw [SeqAt.eqv_refl (dTup ns) (cl_ints ns)]; exact k⟩
end
end One
/-! ### the mathematics of rows -/
namespace One
/-- the row on a place -/
def row : Nat → Nat → List Bool
  | 0, _ => []
  | n + 1, p => (!decide (p % 2 = p / 2 % 2)) :: row n (p / 2)
theorem row_len : ∀ n p, (row n p).length = n
  | 0, _ => rfl
  | n + 1, p => by
    show (row n (p / 2)).length + 1 = n + 1
    rw [row_len n]
theorem row_snoc : ∀ n p, row (n + 1) p = row n p ++ [!decide (p / 2 ^ n % 2 = p / 2 ^ n / 2 % 2)]
  | 0, p => by
    simp [row]
  | n + 1, p => by
    have ih := row_snoc n (p / 2)
    have e : p / 2 / 2 ^ n = p / 2 ^ (n + 1) := by
      rw [Nat.div_div_eq_div_mul, Nat.pow_succ, Nat.mul_comm]
    rw [e] at ih
    show (!decide (p % 2 = p / 2 % 2)) :: row (n + 1) (p / 2) = (!decide (p % 2 = p / 2 % 2)) :: row n (p / 2) ++ _
    rw [ih]
    rfl
theorem two_succ (n : Nat) : 2 ^ (n + 1) = 2 * 2 ^ n := by
  rw [Nat.pow_succ, Nat.mul_comm]
theorem row_built : ∀ n p, p < 2 ^ (n + 1) → row (n + 1) p = if p < 2 ^ n then row n p ++ [false] else row n (2 ^ (n + 1) - 1 - p) ++ [true]
  | 0, p, h => by
    have h2 : p = 0 ∨ p = 1 := by
      have : p < 2 := h
      omega
    rcases h2 with rfl | rfl <;> rfl
  | n + 1, p, h => by
    have e1 := two_succ n
    have e2 := two_succ (n + 1)
    have ih := row_built n (p / 2) (by omega)
    by_cases c : p < 2 ^ (n + 1)
    · rw [if_pos c]
      rw [if_pos (show p / 2 < 2 ^ n by omega)] at ih
      show (!decide (p % 2 = p / 2 % 2)) :: row (n + 1) (p / 2) = (!decide (p % 2 = p / 2 % 2)) :: row n (p / 2) ++ [false]
      rw [ih]
      rfl
    · rw [if_neg c]
      rw [if_neg (show ¬ p / 2 < 2 ^ n by omega)] at ih
      have d1 : (2 ^ (n + 1 + 1) - 1 - p) / 2 = 2 ^ (n + 1) - 1 - p / 2 := by omega
      have d2 : (!decide ((2 ^ (n + 1 + 1) - 1 - p) % 2 = (2 ^ (n + 1 + 1) - 1 - p) / 2 % 2)) = !decide (p % 2 = p / 2 % 2) := by
        congr 1
        rw [decide_eq_decide]
        omega
      show (!decide (p % 2 = p / 2 % 2)) :: row (n + 1) (p / 2) = (!decide ((2 ^ (n + 1 + 1) - 1 - p) % 2 = (2 ^ (n + 1 + 1) - 1 - p) / 2 % 2)) :: row n ((2 ^ (n + 1 + 1) - 1 - p) / 2) ++ [true]
      rw [ih, d2, d1]
      rfl
/-- the switch that is turned -/
def stepR : Nat → Nat → Nat
  | 0, _ => 0
  | n + 1, p => if n ≠ 0 ∧ p % 2 = 1 then stepR n (p / 2) + 1 else 0
theorem stepR_lt : ∀ n p, 0 < n → stepR n p < n
  | 0, _, h => absurd h (by decide)
  | n + 1, p, _ => by
    unfold stepR
    by_cases c : n ≠ 0 ∧ p % 2 = 1
    · rw [if_pos c]
      have := stepR_lt n (p / 2) (by omega)
      omega
    · rw [if_neg c]
      omega
theorem row_turn : ∀ n p, p < 2 ^ n → ∀ j : Nat, j < n → (((row n p)[j]? = (row n ((p + 1) % 2 ^ n))[j]?) ↔ ¬ j = stepR n p)
  | 0, _, _, _, h => absurd h (by omega)
  | n + 1, p, hp, j, hj => by
    have e1 := two_succ n
    have pos : 0 < 2 ^ n := Nat.pow_pos (by decide)
    by_cases c : n ≠ 0 ∧ p % 2 = 1
    · obtain ⟨m, rfl⟩ : ∃ m, n = m + 1 := ⟨n - 1, by omega⟩
      have e2 := two_succ m
      have pos2 : 0 < 2 ^ m := Nat.pow_pos (by decide)
      have hq : (p + 1) % 2 ^ (m + 1 + 1) / 2 = (p / 2 + 1) % 2 ^ (m + 1) := by
        by_cases w : p + 1 = 2 ^ (m + 1 + 1)
        · rw [w, Nat.mod_self, show p / 2 + 1 = 2 ^ (m + 1) by omega, Nat.mod_self]
        · rw [Nat.mod_eq_of_lt (show p + 1 < 2 ^ (m + 1 + 1) by omega), Nat.mod_eq_of_lt (show p / 2 + 1 < 2 ^ (m + 1) by omega)]
          omega
      have ih := row_turn (m + 1) (p / 2) (by omega)
      have es : stepR (m + 1 + 1) p = stepR (m + 1) (p / 2) + 1 := by
        show (if m + 1 ≠ 0 ∧ p % 2 = 1 then stepR (m + 1) (p / 2) + 1 else 0) = _
        rw [if_pos c]
      rw [es]
      have er : row (m + 1 + 1) ((p + 1) % 2 ^ (m + 1 + 1)) = (!decide ((p + 1) % 2 ^ (m + 1 + 1) % 2 = (p + 1) % 2 ^ (m + 1 + 1) / 2 % 2)) :: row (m + 1) ((p / 2 + 1) % 2 ^ (m + 1)) := by
        show _ :: row (m + 1) ((p + 1) % 2 ^ (m + 1 + 1) / 2) = _
        rw [hq]
      have er0 : row (m + 1 + 1) p = (!decide (p % 2 = p / 2 % 2)) :: row (m + 1) (p / 2) := rfl
      rw [er, er0]
      cases j with
      | zero =>
        have hd : (!decide (p % 2 = p / 2 % 2)) = (!decide ((p + 1) % 2 ^ (m + 1 + 1) % 2 = (p + 1) % 2 ^ (m + 1 + 1) / 2 % 2)) := by
          congr 1
          rw [decide_eq_decide, hq]
          by_cases w : p + 1 = 2 ^ (m + 1 + 1)
          · rw [w, Nat.mod_self, show p / 2 + 1 = 2 ^ (m + 1) by omega, Nat.mod_self]
            omega
          · rw [Nat.mod_eq_of_lt (show p + 1 < 2 ^ (m + 1 + 1) by omega), Nat.mod_eq_of_lt (show p / 2 + 1 < 2 ^ (m + 1) by omega)]
            omega
        simp only [List.getElem?_cons_zero, hd]
        simp
      | succ j =>
        simp only [List.getElem?_cons_succ]
        rw [ih j (by omega)]
        omega
    · have es : stepR (n + 1) p = 0 := by
        show (if n ≠ 0 ∧ p % 2 = 1 then stepR n (p / 2) + 1 else 0) = _
        rw [if_neg c]
      rw [es]
      by_cases hn : n = 0
      · subst hn
        have : p = 0 ∨ p = 1 := by omega
        have hj0 : j = 0 := by omega
        subst hj0
        rcases this with rfl | rfl <;> simp [row]
      · have hev : p % 2 = 0 := by omega
        have hm : (p + 1) % 2 ^ (n + 1) = p + 1 := Nat.mod_eq_of_lt (by omega)
        have h2 : (p + 1) / 2 = p / 2 := by omega
        have er : row (n + 1) ((p + 1) % 2 ^ (n + 1)) = (!decide ((p + 1) % 2 = p / 2 % 2)) :: row n (p / 2) := by
          rw [hm]
          show (!decide ((p + 1) % 2 = (p + 1) / 2 % 2)) :: row n ((p + 1) / 2) = _
          rw [h2]
        have er0 : row (n + 1) p = (!decide (p % 2 = p / 2 % 2)) :: row n (p / 2) := rfl
        rw [er, er0]
        cases j with
        | zero =>
          simp only [List.getElem?_cons_zero]
          have : p / 2 % 2 = 0 ∨ p / 2 % 2 = 1 := by omega
          rcases this with q | q
          · rw [q, hev, show (p + 1) % 2 = 1 by omega]
            decide
          · rw [q, hev, show (p + 1) % 2 = 1 by omega]
            decide
        | succ j => simp
/-- the place of a row -/
def prow : List Bool → Nat
  | [] => 0
  | b :: r => 2 * prow r + if (!(b == decide (prow r % 2 = 1))) = true then 1 else 0
theorem prow_lt : ∀ r : List Bool, prow r < 2 ^ r.length
  | [] => by decide
  | b :: r => by
    have ih := prow_lt r
    have e := two_succ r.length
    show 2 * prow r + (if (!(b == decide (prow r % 2 = 1))) = true then 1 else 0) < 2 ^ (r.length + 1)
    split <;> omega
theorem prow_half (b : Bool) (r : List Bool) : prow (b :: r) / 2 = prow r := by
  show (2 * prow r + if (!(b == decide (prow r % 2 = 1))) = true then 1 else 0) / 2 = prow r
  split <;> omega
theorem prow_odd (b : Bool) (r : List Bool) : decide (prow (b :: r) % 2 = 1) = !(b == decide (prow r % 2 = 1)) := by
  have e : prow (b :: r) = 2 * prow r + if (!(b == decide (prow r % 2 = 1))) = true then 1 else 0 := rfl
  rw [e]
  cases h : (!(b == decide (prow r % 2 = 1)))
  · rw [if_neg Bool.false_ne_true]
    simp
  · rw [if_pos rfl]
    simp
theorem row_prow : ∀ r : List Bool, row r.length (prow r) = r
  | [] => rfl
  | b :: r => by
    show (!decide (prow (b :: r) % 2 = prow (b :: r) / 2 % 2)) :: row r.length (prow (b :: r) / 2) = b :: r
    rw [prow_half, row_prow r]
    congr 1
    have h := prow_odd b r
    have m1 : prow (b :: r) % 2 = 0 ∨ prow (b :: r) % 2 = 1 := by omega
    have m2 : prow r % 2 = 0 ∨ prow r % 2 = 1 := by omega
    rcases m1 with m1 | m1 <;> rcases m2 with m2 | m2 <;> rw [m1, m2] at h <;> rw [m1, m2] <;> cases b <;> simp_all
theorem prow_row : ∀ n p, p < 2 ^ n → prow (row n p) = p
  | 0, p, h => by
    have : p < 1 := h
    show 0 = p
    omega
  | n + 1, p, h => by
    have e := two_succ n
    have ih := prow_row n (p / 2) (by omega)
    show 2 * prow (row n (p / 2)) + (if (!((!decide (p % 2 = p / 2 % 2)) == decide (prow (row n (p / 2)) % 2 = 1))) = true then 1 else 0) = p
    rw [ih]
    have m1 : p % 2 = 0 ∨ p % 2 = 1 := by omega
    have m2 : p / 2 % 2 = 0 ∨ p / 2 % 2 = 1 := by omega
    rcases m1 with m1 | m1 <;> rcases m2 with m2 | m2 <;> rw [m1, m2] <;> simp <;> omega
/-- the list of all rows -/
def allRows : Nat → List (List Bool)
  | 0 => [[]]
  | n + 1 => (allRows n).map (fun r => r ++ [false]) ++ (allRows n).reverse.map (fun r => r ++ [true])
theorem allRows_len : ∀ n, (allRows n).length = 2 ^ n
  | 0 => rfl
  | n + 1 => by
    show ((allRows n).map (fun r => r ++ [false]) ++ (allRows n).reverse.map (fun r => r ++ [true])).length = 2 ^ (n + 1)
    rw [List.length_append, List.length_map, List.length_map, List.length_reverse, allRows_len n, two_succ]
    omega
theorem allRows_at : ∀ n p, p < 2 ^ n → (allRows n)[p]? = some (row n p)
  | 0, p, h => by
    have : p = 0 := by
      have : p < 1 := h
      omega
    subst this
    rfl
  | n + 1, p, h => by
    have e := two_succ n
    rw [row_built n p h]
    show ((allRows n).map (fun r => r ++ [false]) ++ (allRows n).reverse.map (fun r => r ++ [true]))[p]? = _
    by_cases c : p < 2 ^ n
    · rw [if_pos c, List.getElem?_append_left (by rw [List.length_map, allRows_len]; exact c), List.getElem?_map, allRows_at n p c]
      rfl
    · rw [if_neg c, List.getElem?_append_right (by rw [List.length_map, allRows_len]; omega), List.length_map, allRows_len, List.getElem?_map,
        List.getElem?_reverse (by rw [allRows_len]; omega), allRows_len, allRows_at n _ (by omega)]
      rw [show 2 ^ n - 1 - (p - 2 ^ n) = 2 ^ (n + 1) - 1 - p by omega]
      rfl
end One
/-! ### a dict whose keys are tuples of truths -/
namespace One
open PySem PySem.Spec PyProof.Rows L2
def lfB (b : Bool) : Leaf := .num (if b = true then 1 else 0)
theorem lfB_inj : ∀ {a b : Bool}, lfB a = lfB b → a = b
  | true, true, _ => rfl
  | false, false, _ => rfl
  | true, false, h => absurd (Leaf.num.inj h) (by decide)
  | false, true, h => absurd (Leaf.num.inj h) (by decide)
def lfR (r : List Bool) : List Leaf := r.map lfB
theorem lfR_inj : ∀ {a b : List Bool}, lfR a = lfR b → a = b
  | [], [], _ => rfl
  | [], _ :: _, h => by cases h
  | _ :: _, [], h => by cases h
  | x :: a, y :: b, h => by
    have h1 : lfB x = lfB y := (List.cons.inj h).1
    have h2 : lfR a = lfR b := (List.cons.inj h).2
    rw [lfB_inj h1, lfR_inj h2]
/-- the dict's own object: what its keys are, where their tuples stand, what is held at them -/
def tabB (P : Program) (w : World) (d : Addr) (xs : List (List Leaf × Addr × Value)) (h : Heap) : Prop :=
  (d == sysModules) = false ∧ (xs.map (·.1)).Nodup ∧ ∃ o es ep, h.get? d = some o ∧ o.ExactDict ∧ o.data = .dict es ep ∧ es.toList = xs.map (entryOfKey (tupleKind (leafKind P w)))
/-- each key's tuple stands on the tracked heap -/
def KeysB (H : Hp) : List (List Bool) → List (List Leaf × Addr × Value) → Prop := Paired fun r x => x.1 = lfR r ∧ H x.2.1 = some (.tup (r.map V.bl))
/-- at d: a dict with the rows rs as keys -/
def DB (P : Program) (w : World) (H : Hp) (d : Addr) (rs : List (List Bool)) : Prop := ∃ xs, H d = some (.ext (tabB P w d xs)) ∧ KeysB H rs xs
theorem KeysB.keeps {H H' : Hp} {rs : List (List Bool)} {xs : List (List Leaf × Addr × Value)} (r : KeysB H rs xs) (ht : ∀ b ys, H b = some (.tup ys) → H' b = some (.tup ys)) : KeysB H' rs xs :=
  Paired.mapP r fun _ _ z => ⟨z.1, ht _ _ z.2⟩
theorem DB.same {P : Program} {w : World} {H H' : Hp} {d : Addr} {rs : List (List Bool)} (h : DB P w H d rs) (sm : Same H H') : DB P w H' d rs := by
  obtain ⟨xs, h1, h2⟩ := h
  exact ⟨xs, sm _ _ h1, h2.keeps fun b ys e => sm _ _ e⟩
theorem DB.new {P : Program} {w : World} {H : Hp} {d : Addr} : DB P w (upd H d (.ext (tabB P w d []))) d [] := ⟨[], upd_same, .nil⟩
/-- what the table holds at a row -/
theorem KeysB.at {H : Hp} {rs : List (List Bool)} {xs : List (List Leaf × Addr × Value)} (h : KeysB H rs xs) (r : List Bool) : (atKey xs (lfR r)).isSome = decide (r ∈ rs) := by
  unfold KeysB at h
  induction h with
  | nil => rfl
  | @cons q x qs ys hq t ih =>
    by_cases e : x.1 = lfR r
    · have e2 : q = r := lfR_inj (hq.1.symm.trans e)
      have b : atKey (x :: ys) (lfR r) = some x.2 := by simp [atKey, List.find?_cons, e]
      rw [b, e2, decide_eq_true List.mem_cons_self]
      rfl
    · have e2 : ¬ r = q := fun z => e (by rw [z]; exact hq.1)
      have b : atKey (x :: ys) (lfR r) = atKey ys (lfR r) := by simp [atKey, List.find?_cons, e]
      rw [b, ih]
      congr 1
      rw [List.mem_cons]
      exact propext ⟨.inr, fun z => z.elim (fun y => absurd y e2) id⟩
section
variable {P : Program} {w : World} {H : Hp} {h : Heap} {a b d : Addr} {r : List Bool} {rs : List (List Bool)} {xs : List (List Leaf × Addr × Value)}
theorem items_areB : ∀ {r : List Bool} {us : List Value}, Vals (r.map V.bl) us → ItemsAre (leafKind P w) (lfR r) us
  | [], _, q => by
    rw [List.map_nil] at q
    cases q
    exact .nil
  | x :: r, _, q => by
    rw [List.map_cons] at q
    cases q with
    | @cons _ u _ us h t =>
      have e : u = Value.bool x := h
      subst e
      refine .cons ?_ (items_areB t)
      show Leaf.isOf (lfB x) (.bool x) = true
      cases x <;> rfl
/-- a tracked tuple of truths is a key -/
theorem keyB_of (ok : HOk P w H h) (e : H a = some (.tup (r.map V.bl))) : (tupleKind (leafKind P w)).is h (lfR r) a := by
  obtain ⟨_, its, q, o, h1, h2, n, h3⟩ := (show ObjOk P w H h a (.tup (r.map V.bl)) from ok a _ e)
  exact ⟨o, its.toArray, n, h1, h2, h3, by simpa using items_areB q⟩
theorem tabB_of (ok : HOk P w H h) (e : H d = some (.ext (tabB P w d xs))) (k : KeysB H rs xs) : (d == sysModules) = false ∧ h.DictOfH (tupleKind (leafKind P w)) d xs := by
  obtain ⟨⟨hd, nd, o, es, ep, h1, h2, h3, h4⟩, _, _⟩ := (show ObjOk P w H h d (.ext (tabB P w d xs)) from ok d _ e)
  refine ⟨hd, o, es, ep, h1, h2, h3, h4, fun x hx => ?_, nd⟩
  have all : ∀ {l : List (List Bool)} {m : List (List Leaf × Addr × Value)}, KeysB H l m → ∀ x ∈ m, (tupleKind (leafKind P w)).is h x.1 x.2.1 := by
    intro l m q
    unfold KeysB at q
    induction q with
    | nil => intro x hx; exact nomatch hx
    | @cons p y ps qs hq t ih =>
      intro x hx
      rcases List.mem_cons.mp hx with e | hx
      · subst e
        rw [hq.1]
        exact keyB_of ok hq.2
      · exact ih x hx
  exact all k x hx
/-- the object holds the table, whatever else changes -/
theorem tabB_stay (hd : (d == sysModules) = false) (nd : (xs.map (·.1)).Nodup) {o : Obj} {es : Array DictEntry} {ep : Nat} (h1 : h.get? d = some o) (h2 : o.ExactDict) (h3 : o.data = .dict es ep)
    (h4 : es.toList = xs.map (entryOfKey (tupleKind (leafKind P w)))) {H' : Hp} : ObjOk P w H' h d (.ext (tabB P w d xs)) :=
  ⟨⟨hd, nd, o, es, ep, h1, h2, h3, h4⟩, ⟨o, h1⟩, fun k1 k2 ⟨_, _, o', es', ep', q1, q2, q3, q4⟩ st => ⟨hd, nd, o', es', ep', st _ q1, q2, q3, q4⟩⟩
end
section
variable {X : Cx} {pins : List (Addr × Obj)} {σ : L2.St} {H : Hp} {s : Shared} {a b : Addr} {v : V} {u : Value} {A : Around} {E : Value → Shared → Prop} {r : List Bool} {rs : List (List Bool)}
theorem d_inB {Q : Value → Shared → Prop} (hu : A.units + 1 < cLine) (I : Inv X pins σ H s) (g : DB X.prog X.w H a rs) (hb : H b = some (.tup (r.map V.bl))) (h : ∀ s', Inv X pins σ H s' → Q (.bool (decide (r ∈ rs))) s') :
    wpAny (model X.prog X.w) A (compareOp .In (.ref b) (.ref a)) Q E s := by
  obtain ⟨xs, g1, g2⟩ := g
  obtain ⟨hd, dd⟩ := tabB_of I.hok g1 g2
  refine wpAny_in_heap (tupleKind_room_in1 hu) (keyB_of I.hok hb) hd dd ?_
  rw [g2.at r]
  exact h _ (I.tok _)
theorem d_putB {Q : Unit → Shared → Prop} (hu : A.units + 1 < cLine) (I : Inv X pins σ H s) (g : DB X.prog X.w H a rs) (hb : H b = some (.tup (r.map V.bl))) (hn : r ∉ rs) (hl : rs.length ≤ 100000)
    (h : ∀ H' s', Inv X pins σ H' s' → DB X.prog X.w H' a (rs ++ [r]) → (∀ c, c ≠ a → H' c = H c) → Q () s') : wpAny (model X.prog X.w) A (setItem (.ref a) (.ref b) u) Q E s := by
  obtain ⟨xs, g1, g2⟩ := g
  obtain ⟨hd, dd⟩ := tabB_of I.hok g1 g2
  have hz : xs.length ≤ sizeLine := by
    rw [← Paired.length g2]
    exact Nat.le_trans hl (by decide)
  refine wpAny_setItem_heap (hsz := hz) (tupleKind_room_in1 hu) (keyB_of I.hok hb) dd fun h' dd' hs => ?_
  have none : atKey xs (lfR r) = Option.none := by
    have e := g2.at r
    rw [decide_eq_false hn] at e
    cases q : atKey xs (lfR r) with
    | none => rfl
    | some x =>
      rw [q] at e
      cases e
  rw [storedH_new none] at dd'
  obtain ⟨q, es, ep, hq, h2, h3, h4, _, h5⟩ := dd'
  have ne : ∀ c ys, H c = some (.tup ys) → c ≠ a := fun c ys e => ne_of e g1 (fun z => nomatch z)
  refine h (upd H a (.ext (tabB X.prog X.w a (xs ++ [(lfR r, b, u)])))) _ (d_write I (by rw [g1]; exact True.intro) hs ⟨q, hq⟩ (tabB_stay hd h5 hq h2 h3 h4)) ⟨_, upd_same, ?_⟩ fun c hc => upd_ne hc
  have g3 : KeysB (upd H a (.ext (tabB X.prog X.w a (xs ++ [(lfR r, b, u)])))) rs xs := g2.keeps fun c ys e => by
    rw [upd_ne (ne c ys e)]
    exact e
  refine Paired.snoc g3 ⟨rfl, ?_⟩
  rw [upd_ne (ne b _ hb)]
  exact hb
end
def tDNewB (P : Program) (w : World) : TE := fun _ H Q => ∀ p, H p = none → Q (.ref p) (upd H p (.ext (tabB P w p [])))
def tDInB (P : Program) (w : World) (ty td : TE) : TE := fun σ H Q => ty σ H fun y H1 => td σ H1 fun x H2 => ∃ a b rs r, x = .ref a ∧ y = .ref b ∧ DB P w H2 a rs ∧ H2 b = some (.tup (r.map V.bl)) ∧ Q (.bl (decide (r ∈ rs))) H2
def sDPutB (P : Program) (w : World) (td ty tv : TE) : TS := fun D σ H => tv σ H fun _ H1 => td σ H1 fun x H2 => ty σ H2 fun y H3 => ∃ a b rs r, x = .ref a ∧ y = .ref b ∧ DB P w H3 a rs ∧ H3 b = some (.tup (r.map V.bl)) ∧ r ∉ rs ∧ rs.length ≤ 100000 ∧
  ∀ H4, DB P w H4 a (rs ++ [r]) → (∀ c, c ≠ a → H4 c = H3 c) → D.nx σ H4
section
variable {X : Cx} {o i value : Expr} {pos pos' : Pos} {td ty tv : TE}
theorem pe_dnewB : PE X (.Dict [] [] pos) (tDNewB X.prog X.w) := ⟨fun pins s σ H Q I h =>
  wpAny_Dict_empty ⟨.ref s.heap.objs.size, _, I.laid (a := s.heap.objs.size) (o := .ext (tabB X.prog X.w s.heap.objs.size [])) (t' := s.toks) (fun _ _ q => Heap.get?_push_of_some _ q) (Nat.le_refl _)
    (tabB_stay (xs := []) (beq_eq_false_iff_ne.mpr (Ne.symm (Nat.ne_of_lt I.big))) List.nodup_nil (es := #[]) (ep := 0) (Heap.get?_push_size _ rfl) ⟨rfl, rfl, rfl⟩ rfl rfl), rfl, h _ (I.hok.fresh (Nat.le_refl _))⟩⟩
theorem pc_dinB (hu : X.A.units + 1 < cLine) (hi : PE X i ty) (ho : PE X o td) : PC X .In i o (tDInB X.prog X.w ty td) := by
  refine ⟨fun pins s σ H Q I h => ?_⟩
  refine thn (hi.run pins s σ H _ I h) fun iv s1 ⟨y, H1, I1, ry, q1⟩ => thn (ho.run pins s1 σ H1 _ I1 q1) fun u s2 ⟨x, H2, I2, rx, a, b, rs, r, ex, ey, g, hb, q2⟩ => ?_
  subst ex ey
  obtain rfl : u = Value.ref a := rx
  obtain rfl : iv = Value.ref b := ry
  exact d_inB hu I2 g hb fun s3 I3 => ⟨.bl _, H2, I3, rfl, q2⟩
theorem ps_dputB (hu : X.A.units + 1 < cLine) (ho : PE X o td) (hi : PE X i ty) (hv : PE X value tv) (hs : swapsWith value (some (.Subscript o i pos')) pos.line X.env = pure false) :
    PS X (.Assign [.Subscript o i pos'] value pos) (sDPutB X.prog X.w td ty tv) := by
  refine ⟨fun pins s σ H D I h => ?_⟩
  refine wpAny_Assign_Subscript (thn (hv.run pins s σ H _ I h) fun r s1 ⟨v, H1, I1, rv, q1⟩ => thn (ho.run pins s1 σ H1 _ I1 q1) fun u s2 ⟨x, H2, I2, rx, q2⟩ => thn (hi.run pins s2 σ H2 _ I2 q2) fun iv s3 ⟨y, H3, I3, ry, a, b, rs, k, ex, ey, g, hb, hn, hl, q3⟩ => ?_) hs
  subst ex ey
  obtain rfl : u = Value.ref a := rx
  obtain rfl : iv = Value.ref b := ry
  exact d_putB hu I3 g hb hn hl fun H4 s4 I4 g4 fr => ⟨σ, H4, I4, q3 H4 g4 fr⟩
end
section
variable {P : Program} {w : World} {σ : L2.St} {H : Hp} {Q : VK} {D : Ends} {ty td tv : TE}
theorem rd_newB (k : ∀ p, H p = none → Q (.ref p) (upd H p (.ext (tabB P w p [])))) : tDNewB P w σ H Q := k
theorem rd_dinB (k : ty σ H fun y H1 => td σ H1 fun x H2 => ∃ a b rs r, x = .ref a ∧ y = .ref b ∧ DB P w H2 a rs ∧ H2 b = some (.tup (r.map V.bl)) ∧ Q (.bl (decide (r ∈ rs))) H2) : tDInB P w ty td σ H Q := k
theorem rd_dputB (k : tv σ H fun _ H1 => td σ H1 fun x H2 => ty σ H2 fun y H3 => ∃ a b rs r, x = .ref a ∧ y = .ref b ∧ DB P w H3 a rs ∧ H3 b = some (.tup (r.map V.bl)) ∧ r ∉ rs ∧ rs.length ≤ 100000 ∧
  ∀ H4, DB P w H4 a (rs ++ [r]) → (∀ c, c ≠ a → H4 c = H3 c) → D.nx σ H4) : sDPutB P w td ty tv D σ H := k
end
end One

namespace One
open PySem L2
/-- only one turn gives -/
theorem given_at {f : Nat → Bool} {v : Nat → V} {s : Nat} : ∀ m, (∀ k, k < m → f k = decide (k = s)) → given m f v = if s < m then [v s] else []
  | 0, _ => by
    rw [if_neg (Nat.not_lt_zero s)]
    rfl
  | m + 1, h => by
    have ih := given_at (v := v) m fun k hk => h k (by omega)
    have hm := h m (by omega)
    by_cases c : m = s
    · subst c
      rw [given_yes (by rw [hm, decide_eq_true rfl]), ih, if_neg (Nat.lt_irrefl m), if_pos (Nat.lt_succ_self m)]
      rfl
    · rw [given_no (by rw [hm, decide_eq_false c]), ih]
      by_cases e : s < m
      · rw [if_pos e, if_pos (by omega)]
      · rw [if_neg e, if_neg (by omega)]
/-- no turn gives -/
theorem given_nil {v : Nat → V} : ∀ m, given m (fun _ => false) v = []
  | 0 => rfl
  | m + 1 => by
    rw [given_no rfl, given_nil m]
theorem getB {l : List Bool} {i : Nat} (h : i < l.length) : l[i]? = some (l.getD i false) := by
  rw [List.getD_eq_getElem?_getD, List.getElem?_eq_getElem h]
  rfl
/-- the rows behind one another differ at the step alone -/
theorem turned_at {n j k : Nat} (hj : j < 2 ^ n) (hk : k < n) : (!((row n ((j + 1) % 2 ^ n)).getD k false == (row n j).getD k false)) = decide (k = stepR n j) := by
  have t := row_turn n j hj k hk
  rw [getB (by rw [row_len]; exact hk), getB (by rw [row_len]; exact hk)] at t
  by_cases c : k = stepR n j
  · have nx : ¬ (row n j).getD k false = (row n ((j + 1) % 2 ^ n)).getD k false := fun z => (t.mp (by rw [z])) c
    rw [decide_eq_true c]
    generalize (row n j).getD k false = x at nx
    generalize (row n ((j + 1) % 2 ^ n)).getD k false = y at nx
    cases x <;> cases y <;> first | rfl | exact absurd rfl nx
  · have nx : (row n j).getD k false = (row n ((j + 1) % 2 ^ n)).getD k false := Option.some.inj (t.mpr c)
    rw [decide_eq_false c, nx, beq_self_eq_true]
    rfl
/-- the rows on the first places -/
def firsts (n i : Nat) : List (List Bool) := (List.range i).map (row n)
theorem firsts_len (n i : Nat) : (firsts n i).length = i := by
  unfold firsts
  rw [List.length_map, List.length_range]
theorem firsts_new {n i : Nat} (hi : i < 2 ^ n) : row n i ∉ firsts n i := by
  unfold firsts
  rw [List.mem_map]
  rintro ⟨k, hk, e⟩
  rw [List.mem_range] at hk
  have e2 := congrArg prow e
  rw [prow_row n k (by omega), prow_row n i hi] at e2
  omega
theorem firsts_more (n i : Nat) : firsts n (i + 1) = firsts n i ++ [row n i] := by
  unfold firsts
  rw [List.range_succ, List.map_append]
  rfl
end One
namespace One
open PySem L2
/-! ### the text by places -/
def top (i : Nat) : Stmt := PySem.Challenge.pw_onestep_k04_whole_rows_once.main.body.getD i (.Pass ⟨0, 0, 0, 0⟩)
abbrev s_rows : Stmt := top 7
abbrev N_rows : List Str := ["size", "total", "k"]
theorem sc_rows : FnScope N_rows ["size"] (defScope s_rows) := ⟨rfl, rfl, rfl, by decide +kernel, rfl, by decide +kernel, by decide +kernel⟩
abbrev s_asked : Stmt := top 8
abbrev N_asked : List Str := ["size", "place", "total"]
theorem sc_asked : FnScope N_asked ["size", "place"] (defScope s_asked) := ⟨rfl, rfl, rfl, by decide +kernel, rfl, by decide +kernel, by decide +kernel⟩
abbrev s_row_at : Stmt := top 9
abbrev N_row_at : List Str := ["size", "place", "found", "k"]
theorem sc_row_at : FnScope N_row_at ["size", "place"] (defScope s_row_at) := ⟨rfl, rfl, rfl, by decide +kernel, rfl, by decide +kernel, by decide +kernel⟩
abbrev s_row_step : Stmt := top 10
abbrev N_row_step : List Str := ["size", "place", "switch"]
theorem sc_row_step : FnScope N_row_step ["size", "place"] (defScope s_row_step) := ⟨rfl, rfl, rfl, by decide +kernel, rfl, by decide +kernel, by decide +kernel⟩
abbrev s__law_cell_at : Stmt := top 12
abbrev N__law_cell_at : List Str := ["script", "k"]
theorem sc__law_cell_at : FnScope N__law_cell_at ["script", "k"] (defScope s__law_cell_at) := ⟨rfl, rfl, rfl, by decide +kernel, rfl, by decide +kernel, by decide +kernel⟩
abbrev s__law_whole : Stmt := top 13
abbrev N__law_whole : List Str := ["found"]
theorem sc__law_whole : FnScope N__law_whole ["found"] (defScope s__law_whole) := ⟨rfl, rfl, rfl, by decide +kernel, rfl, by decide +kernel, by decide +kernel⟩
abbrev s__law_twos : Stmt := top 14
abbrev N__law_twos : List Str := ["size", "total", "k"]
theorem sc__law_twos : FnScope N__law_twos ["size"] (defScope s__law_twos) := ⟨rfl, rfl, rfl, by decide +kernel, rfl, by decide +kernel, by decide +kernel⟩
abbrev s_law : Stmt := top 15
abbrev N_law : List Str := ["script", "size", "total", "seen", "before", "place", "row", "turned", "switch", "on"]
theorem sc_law : FnScope N_law ["script"] (defScope s_law) := ⟨rfl, rfl, rfl, by decide +kernel, rfl, by decide +kernel, by decide +kernel⟩
/-- what the top has laid, as far as the walk asks -/
structure Txt (K : PySem.W.Frag) (mg : Str → Option Value) where
  f_rows : Addr
  fd_rows : FuncData
  F_rows : Fun K "rows" "rows" s_rows f_rows fd_rows
  b_rows : Binds K fd_rows ["size"] []
  f_asked : Addr
  fd_asked : FuncData
  F_asked : Fun K "asked" "asked" s_asked f_asked fd_asked
  b_asked : Binds K fd_asked ["size", "place"] []
  f_row_at : Addr
  fd_row_at : FuncData
  F_row_at : Fun K "row_at" "row_at" s_row_at f_row_at fd_row_at
  b_row_at : Binds K fd_row_at ["size", "place"] []
  f_row_step : Addr
  fd_row_step : FuncData
  F_row_step : Fun K "row_step" "row_step" s_row_step f_row_step fd_row_step
  b_row_step : Binds K fd_row_step ["size", "place"] []
  f__law_cell_at : Addr
  fd__law_cell_at : FuncData
  F__law_cell_at : Fun K "_law_cell_at" "_law_cell_at" s__law_cell_at f__law_cell_at fd__law_cell_at
  b__law_cell_at : Binds K fd__law_cell_at ["script", "k"] []
  f__law_whole : Addr
  fd__law_whole : FuncData
  F__law_whole : Fun K "_law_whole" "_law_whole" s__law_whole f__law_whole fd__law_whole
  b__law_whole : Binds K fd__law_whole ["found"] []
  f__law_twos : Addr
  fd__law_twos : FuncData
  F__law_twos : Fun K "_law_twos" "_law_twos" s__law_twos f__law_twos fd__law_twos
  b__law_twos : Binds K fd__law_twos ["size"] []
  f_law : Addr
  fd_law : FuncData
  F_law : Fun K "law" "law" s_law f_law fd_law
  b_law : Binds K fd_law ["script"] []
  g_rows : mg "rows" = some (.ref f_rows)
  g_asked : mg "asked" = some (.ref f_asked)
  g_row_at : mg "row_at" = some (.ref f_row_at)
  g_row_step : mg "row_step" = some (.ref f_row_step)
  g__law_cell_at : mg "_law_cell_at" = some (.ref f__law_cell_at)
  g__law_whole : mg "_law_whole" = some (.ref f__law_whole)
  g__law_twos : mg "_law_twos" = some (.ref f__law_twos)
  g_law : mg "law" = some (.ref f_law)
  t_MOST : Tok
  g_MOST : mg "MOST" = some (.int 40 t_MOST)
  m_bool : mg "bool" = none
  m_int : mg "int" = none
  m_isinstance : mg "isinstance" = none
  m_len : mg "len" = none
  m_list : mg "list" = none
  m_range : mg "range" = none
  m_tuple : mg "tuple" = none
end One
local macro_rules | `(tactic| walk_at "rd1") => `(tactic| first
  | (with_reducible refine One.rd_var ?_; refine ⟨_, rfl, ?_⟩)
  | with_reducible refine One.rd_c ?_
  | with_reducible refine One.rd_seq ?_
  | with_reducible refine One.rd_asg ?_
  | with_reducible refine One.rd_name ?_
  | with_reducible refine One.rd_op ?_
  | with_reducible refine One.rd_i0 ?_
  | with_reducible refine One.rd_mul1 ⟨(by omega), (by omega)⟩ ?_
  | with_reducible refine One.rd_mul2 ⟨(by omega), (by omega)⟩ ?_
  | with_reducible refine One.rd_div ⟨(by omega), (by omega)⟩ ?_
  | with_reducible refine One.rd_mod (by omega) ?_
  | with_reducible refine One.rd_i ?_ ?_
  | with_reducible refine One.rd_eq ?_
  | with_reducible refine One.rd_ne ?_
  | with_reducible refine One.rd_eqB ?_
  | with_reducible refine One.rd_neB ?_
  | with_reducible refine One.rd_test ?_
  | with_reducible refine One.rd_tB ?_
  | with_reducible refine One.rd_bl ?_
  | with_reducible refine One.rd_and ?_
  | with_reducible refine One.rd_or ?_
  | with_reducible refine One.rd_not ?_
  | with_reducible refine One.rd_andV ?_
  | with_reducible refine One.rd_orV ?_
  | with_reducible refine One.rd_notV ?_
  | with_reducible refine One.rd_ifx ?_
  | with_reducible refine One.rd_if ?_
  | with_reducible refine One.rd_ret ?_
  | with_reducible refine One.rd_drop ?_
  | with_reducible refine One.rd_next ?_
  | with_reducible refine One.rd_par ?_
  | with_reducible refine One.rd_two ?_
  | with_reducible refine One.rd_un ?_
  | with_reducible refine One.rd_neg ?_
  | with_reducible refine One.rd_nil ?_
  | with_reducible refine One.rd_cons ?_
  | with_reducible refine One.rd_cb ?_
  | with_reducible refine One.rd_call ?_
  | with_reducible refine One.rd_tup ?_
  | with_reducible refine One.rd_lst ?_
  | with_reducible refine One.rd_bm ?_
  | with_reducible refine One.rd_sl ?_
  | with_reducible refine One.rd_nopart ?_
  | with_reducible refine One.rd_part ?_
  | with_reducible refine One.rd_ni ?_
  | with_reducible refine One.rd_for1 ?_
  | with_reducible refine One.rd_forL ?_
  | with_reducible refine One.rd_lcL ?_
  | with_reducible refine One.rd_lcV ?_
  | with_reducible refine One.rd_lcR ?_
  | with_reducible refine One.tt_yes ?_
  | with_reducible refine One.rd_forV ?_
  | with_reducible refine One.rd_forRR ?_
  | with_reducible refine One.rd_rg2 ?_
  | with_reducible refine One.rd_rg1 ?_
  | with_reducible refine One.rd_ij ?_
  | with_reducible refine One.rd_lstRg ?_
  | with_reducible refine One.rd_din ?_
  | with_reducible refine One.rd_dput ?_
  | with_reducible refine One.rd_newT ?_
  | with_reducible refine One.whil_in ?_
  | with_reducible refine One.if_t ?_
  | with_reducible refine One.if_f ?_
  | with_reducible refine One.if_ft ?_
  | with_reducible refine One.if_tf ?_
  | with_reducible refine One.if_df (by omega) ?_
  | with_reducible refine One.if_dt (by omega) ?_
  | with_reducible refine One.if_nf (by omega) ?_
  | with_reducible refine One.if_nt (by omega) ?_)
local macro_rules | `(tactic| walk_at "rd") => `(tactic| repeat (walk_at "rd1"))
local macro_rules | `(tactic| walk_at "rd1") => `(tactic| first
  | with_reducible refine One.rd_newB ?_
  | with_reducible refine One.rd_dinB ?_
  | with_reducible refine One.rd_dputB ?_)
namespace One
open PySem L2
section
variable {P : Program} {w : World} {K : PySem.W.Frag} {mg : Str → Option Value} {base : Heap}

/-- rows(n): 2 ^ n -/
def sp_rows : Sp := fun vs H Q _ => ∃ n : Nat, vs = [.int (n : Int)] ∧ n ≤ 40 ∧ Q (.int ((2 ^ n : Nat) : Int)) H
theorem two_turn (k : Nat) : ((2 ^ k : Nat) : Int) * 2 = ((2 ^ (k + 1) : Nat) : Int) := by
  rw [Nat.pow_succ, Int.natCast_mul]
  rfl
theorem two_turn2 (k : Nat) : 2 * ((2 ^ k : Nat) : Int) = ((2 ^ (k + 1) : Nat) : Int) := by
  rw [Int.mul_comm, two_turn]
theorem ok_rows (T : Txt K mg) : FnOk P w K mg base CX0 1 T.f_rows T.fd_rows ["size"] (sp_rows) := by
  refine T.F_rows.ok sc_rows (fun vs H Q E h => ?_) (fun cdv A outer s H vs Q E hr h => ?_)
  · obtain ⟨_, rfl, _⟩ := h
    all_goals rfl
  · refine ⟨_, (pss_cons (ps_if (PW.pt (pw_or (pt_cmpR op_lt (pv 0) pe_int (nomark _)) (pw_or1 (pt_cmpR op_gt (pv 0) (pe_glob (v := .int 40) rfl T.g_MOST ⟨_, rfl⟩) (nomark _))))) (pss_one ps_never) pss_nil)
      (pss_cons (ps_set (i := 1) sc_rows.nd rfl (Or.inl rfl) pe_int)
      (pss_cons (ps_for PassesOwn.never rfl (pi_range1 rfl T.m_range (pa_cons (pv 0) pa_nil)) (pg_name (i := 2) sc_rows.nd rfl (Or.inl rfl)) (pss_one (ps_set (i := 1) sc_rows.nd rfl (Or.inl rfl) (pe_op op_mul (pv 1) pe_int))))
      (pss_one (ps_ret (pv 1)))))), ?_⟩
    obtain ⟨n, rfl, hn, q⟩ := h
    have pw : ∀ k, k ≤ n → (2 ^ k : Nat) ≤ 2 ^ 40 := fun k hk => Nat.pow_le_pow_right (by decide) (by omega)
    walk_at "rd"
    refine for1 (n := n) (by omega) (fun k σ' H' => ∃ y, σ' = [some (.int (n : Int)), some (.int ((2 ^ k : Nat) : Int)), y] ∧ H' = H) ⟨_, rfl, rfl⟩ ?_ ?_
    · rintro k σ' H' hk ⟨y, rfl, rfl⟩
      have := pw k (by omega)
      walk_at "rd"
      rw [two_turn]
      exact ⟨_, rfl, rfl⟩
    · rintro σ' H' ⟨y, rfl, rfl⟩
      walk_at "rd"
      exact q

def sp_asked_rows : Sp := fun vs H Q _ => ∃ n p : Nat, vs = [.int (n : Int), .int (p : Int)] ∧ n ≤ 40 ∧ p < 2 ^ n ∧ Q .non H
theorem ok_asked (T : Txt K mg) : FnOk P w K mg base CX0 2 T.f_asked T.fd_asked ["size", "place"] (sp_asked_rows) := by
  have G_rows := ok_rows (P := P) (w := w) (base := base) T
  refine T.F_asked.ok sc_asked (fun vs H Q E h => ?_) (fun cdv A outer s H vs Q E hr h => ?_)
  · obtain ⟨_, _, rfl, _⟩ := h
    all_goals rfl
  · refine ⟨_, (pss_cons (ps_set (i := 2) sc_asked.nd rfl (Or.inl rfl) (pe_call G_rows (hr.mono (by decide)) (by rfl) T.g_rows T.F_rows.kp T.b_rows .nil pass0 (pa_cons (pv 0) pa_nil)))
      (pss_one (ps_if (PW.pt (pw_or (pt_cmpR op_lt (pv 1) pe_int (nomark _)) (pw_or1 (pt_cmpR op_ge (pv 1) (pv 2) (nomark _))))) (pss_one ps_never) pss_nil))), ?_⟩
    obtain ⟨n, p, rfl, hn, hp, q⟩ := h
    walk_at "rd"
    refine ⟨n, rfl, hn, ?_⟩
    walk_at "rd"
    exact q

def sp_row_at : Sp := fun vs H Q _ => ∃ n p : Nat, vs = [.int (n : Int), .int (p : Int)] ∧ n ≤ 40 ∧ p < 2 ^ n ∧
  ∀ H' a, Same H H' → H a = none → H' a = some (.lst ((row n p).map V.bl)) → Q (.ref a) H'
theorem halved (p k : Nat) : ((p / 2 ^ k : Nat) : Int) / 2 = ((p / 2 ^ (k + 1) : Nat) : Int) := by
  rw [Nat.pow_succ, ← Nat.div_div_eq_div_mul]
  rfl
theorem bit_int (p : Nat) : decide ((p : Int) % 2 = (p : Int) / 2 % 2) = decide (p % 2 = p / 2 % 2) := by
  rw [decide_eq_decide]
  omega
theorem ok_row_at (T : Txt K mg) : FnOk P w K mg base CX0 3 T.f_row_at T.fd_row_at ["size", "place"] (sp_row_at) := by
  have G_asked := ok_asked (P := P) (w := w) (base := base) T
  refine T.F_row_at.ok sc_row_at (fun vs H Q E h => ?_) (fun cdv A outer s H vs Q E hr h => ?_)
  · obtain ⟨_, _, rfl, _⟩ := h
    all_goals rfl
  · refine ⟨_, (pss_cons (ps_expr (pe_call G_asked (hr.mono (by decide)) (by rfl) T.g_asked T.F_asked.kp T.b_asked .nil pass0 (pa_cons (pv 0) (pa_cons (pv 1) pa_nil))))
      (pss_cons (ps_set (i := 2) sc_row_at.nd rfl (Or.inl rfl) (pe_lst pa_nil))
      (pss_cons (ps_for PassesOwn.never rfl (pi_range1 rfl T.m_range (pa_cons (pv 0) pa_nil)) (pg_name (i := 3) sc_row_at.nd rfl (Or.inl rfl)) (pss_cons (ps_expr (pe_bm PySem.F.plainAttrs_list PySem.F.slot_list_append PySem.F.type_list_append mt_append (pv 2) (pa_cons (pe_cmpR op_ne (pe_op op_mod (pv 1) pe_int) (pe_op op_mod (pe_op op_fdiv (pv 1) pe_int) pe_int) (nomark _)) pa_nil)))
      (pss_one (ps_set (i := 1) sc_row_at.nd rfl (Or.inl rfl) (pe_op op_fdiv (pv 1) pe_int)))))
      (pss_one (ps_ret (pv 2)))))), ?_⟩
    obtain ⟨n, p, rfl, hn, hp, q⟩ := h
    walk_at "rd"
    refine ⟨n, p, rfl, hn, hp, ?_⟩
    walk_at "rd"
    refine rd_newL (by decide) fun o no => ?_
    walk_at "rd"
    refine for1 (n := n) (by omega) (fun k σ' H' => ∃ y, σ' = [some (.int (n : Int)), some (.int ((p / 2 ^ k : Nat) : Int)), some (.ref o), y] ∧ Same H H' ∧ H' o = some (.lst ((row k p).map V.bl))) ?_ ?_ ?_
    · rw [Nat.pow_zero, Nat.div_one]
      exact ⟨_, rfl, same_upd no, upd_same⟩
    · rintro k σ' H' hk ⟨y, rfl, sm, ho⟩
      walk_at "rd"
      refine ⟨tyL ho, ?_⟩
      walk_at "rd"
      refine rd_app ho (by rw [List.length_map, row_len]; omega) ?_
      walk_at "rd"
      rw [bit_int, halved]
      refine ⟨_, rfl, same_mut sm no, ?_⟩
      rw [upd_same, row_snoc, List.map_append]
      rfl
    · rintro σ' H' ⟨y, rfl, sm, ho⟩
      walk_at "rd"
      exact q H' o sm no ho

def sp_row_step : Sp := fun vs H Q _ => ∃ n p : Nat, vs = [.int (n : Int), .int (p : Int)] ∧ n ≤ 40 ∧ 0 < n ∧ p < 2 ^ n ∧ Q (.int ((stepR n p : Nat) : Int)) H
theorem ok_row_step (T : Txt K mg) : FnOk P w K mg base CX0 3 T.f_row_step T.fd_row_step ["size", "place"] (sp_row_step) := by
  have G_asked := ok_asked (P := P) (w := w) (base := base) T
  refine T.F_row_step.ok sc_row_step (fun vs H Q E h => ?_) (fun cdv A outer s H vs Q E hr h => ?_)
  · obtain ⟨_, _, rfl, _⟩ := h
    all_goals rfl
  · refine ⟨_, (pss_cons (ps_expr (pe_call G_asked (hr.mono (by decide)) (by rfl) T.g_asked T.F_asked.kp T.b_asked .nil pass0 (pa_cons (pv 0) (pa_cons (pv 1) pa_nil))))
      (pss_cons (ps_if (pt_cmpR op_eq (pv 0) pe_int (nomark _)) (pss_one ps_never) pss_nil)
      (pss_cons (ps_set (i := 2) sc_row_step.nd rfl (Or.inl rfl) pe_int)
      (pss_cons (ps_while PassesOwn.never (PW.pt (pw_and (pt_cmpR op_lt (pv 2) (pe_op op_sub (pv 0) pe_int) (nomark _)) (pw_and1 (pt_cmpR op_eq (pe_op op_mod (pv 1) pe_int) pe_int (nomark _))))) (pss_cons (ps_set (i := 2) sc_row_step.nd rfl (Or.inl rfl) (pe_op op_add (pv 2) pe_int))
      (pss_one (ps_set (i := 1) sc_row_step.nd rfl (Or.inl rfl) (pe_op op_fdiv (pv 1) pe_int)))))
      (pss_one (ps_ret (pv 2))))))), ?_⟩
    obtain ⟨n, p, rfl, hn, h0, hp, q⟩ := h
    walk_at "rd"
    refine ⟨n, p, rfl, hn, hp, ?_⟩
    walk_at "rd"
    refine whil (fun m σ' H' => ∃ s p' : Nat, σ' = [some (.int (n : Int)), some (.int (p' : Int)), some (.int (s : Int))] ∧ H' = H ∧ s < n ∧ m = n - s ∧ s + stepR (n - s) p' = stepR n p) n ⟨0, p, rfl, rfl, h0, rfl, by rw [Nat.sub_zero, Nat.zero_add]⟩ ?_
    rintro m σ' H' ⟨s, p', rfl, rfl, hs, rfl, e⟩
    obtain ⟨d, hd⟩ : ∃ d, n - s = d + 1 := ⟨n - s - 1, by omega⟩
    rw [hd] at e ⊢
    have es : stepR (d + 1) p' = if d ≠ 0 ∧ p' % 2 = 1 then stepR d (p' / 2) + 1 else 0 := rfl
    walk_at "rd"
    refine if_d2 (fun c => ?_) (fun c => ?_)
    · walk_at "rd"
      refine if_d2 (fun c2 => ?_) (fun c2 => ?_)
      · rw [if_pos (by omega)] at es
        walk_at "rd"
        exact ⟨d, by omega, s + 1, p' / 2, rfl, rfl, by omega, by omega, by rw [show n - (s + 1) = d by omega]; omega⟩
      · rw [if_neg (by omega)] at es
        walk_at "rd"
        rw [show s = stepR n p by omega]
        exact q
    · rw [if_neg (by omega)] at es
      walk_at "rd"
      rw [show s = stepR n p by omega]
      exact q

/-- a cell of the script, nought behind its end -/
def sp_cell (K : PySem.W.Frag) : Sp := fun vs H Q _ => ∃ (a : Addr) (ns : List Int) (k : Nat), vs = [.ref a, .int (k : Int)] ∧ SqL K H a (ns.map V.int) ∧ Q (.int (ns.getD k 0)) H
theorem ok__law_cell_at (T : Txt K mg) : FnOk P w K mg base CX0 1 T.f__law_cell_at T.fd__law_cell_at ["script", "k"] (sp_cell K) := by
  refine T.F__law_cell_at.ok sc__law_cell_at (fun vs H Q E h => ?_) (fun cdv A outer s H vs Q E hr h => ?_)
  · obtain ⟨_, _, _, rfl, _⟩ := h
    all_goals rfl
  · refine ⟨_, (pss_cons (ps_if (pt_cmpR op_lt (pv 1) (pe_callB call_len_seq (by rfl) T.m_len PySem.boot_len (pa_cons (pv 0) pa_nil)) (nomark _)) (pss_one (ps_ret (pe_ix ix_list (pv 0) (pv 1) (fun _ _ => rfl)))) pss_nil)
      (pss_one (ps_ret pe_int))), ?_⟩
    obtain ⟨a, ns, k, rfl, hS, q⟩ := h
    walk_at "rd"
    refine rd_len hS ?_
    walk_at "rd"
    rw [List.length_map]
    refine if_d2 (fun hlt => ?_) (fun hge => ?_)
    · walk_at "rd"
      have e : ns[k]? = some (ns.getD k 0) := by
        rw [List.getD_eq_getElem?_getD, List.getElem?_eq_getElem (by omega)]
        rfl
      exact rd_at hS (ints_at e) q
    · walk_at "rd"
      rw [List.getD_eq_getElem?_getD, List.getElem?_eq_none (by omega)] at q
      exact q

def sp_whole : Sp := fun vs H Q _ => ∃ i : Int, vs = [.int i] ∧ Q (.bl true) H
theorem ok__law_whole (T : Txt K mg) : FnOk P w K mg base CX0 1 T.f__law_whole T.fd__law_whole ["found"] (sp_whole) := by
  refine T.F__law_whole.ok sc__law_whole (fun vs H Q E h => ?_) (fun cdv A outer s H vs Q E hr h => ?_)
  · obtain ⟨_, rfl, _⟩ := h
    all_goals rfl
  · refine ⟨_, (pss_one (ps_ret (pe_and (pe_callB (show CallR _ _ (rIsi K) from call_isi) (by rfl) T.m_isinstance (by decide +kernel) (pa_cons (pv 0) (pa_cons (pe_bltn (v := .ty "int") (by rfl) T.m_int (by decide +kernel) rfl) pa_nil))) (pe_one (pe_not (pe_callB (show CallR _ _ (rIsi K) from call_isi) (by rfl) T.m_isinstance (by decide +kernel) (pa_cons (pv 0) (pa_cons (pe_bltn (v := .ty "bool") (by rfl) T.m_bool (by decide +kernel) rfl) pa_nil)))))))), ?_⟩
    obtain ⟨i, rfl, q⟩ := h
    walk_at "rd"
    refine isi_ii ?_
    walk_at "rd"
    refine isi_ib ?_
    walk_at "rd"
    exact q

def sp_twos : Sp := fun vs H Q _ => ∃ n : Nat, vs = [.int (n : Int)] ∧ n ≤ 40 ∧ Q (.int ((2 ^ n : Nat) : Int)) H
theorem ok__law_twos (T : Txt K mg) : FnOk P w K mg base CX0 1 T.f__law_twos T.fd__law_twos ["size"] (sp_twos) := by
  refine T.F__law_twos.ok sc__law_twos (fun vs H Q E h => ?_) (fun cdv A outer s H vs Q E hr h => ?_)
  · obtain ⟨_, rfl, _⟩ := h
    all_goals rfl
  · refine ⟨_, (pss_cons (ps_set (i := 1) sc__law_twos.nd rfl (Or.inl rfl) pe_int)
      (pss_cons (ps_for PassesOwn.never rfl (pi_range1 rfl T.m_range (pa_cons (pv 0) pa_nil)) (pg_name (i := 2) sc__law_twos.nd rfl (Or.inl rfl)) (pss_one (ps_set (i := 1) sc__law_twos.nd rfl (Or.inl rfl) (pe_op op_mul pe_int (pv 1)))))
      (pss_one (ps_ret (pv 1))))), ?_⟩
    obtain ⟨n, rfl, hn, q⟩ := h
    walk_at "rd"
    refine for1 (n := n) (by omega) (fun k σ' H' => ∃ y, σ' = [some (.int (n : Int)), some (.int ((2 ^ k : Nat) : Int)), y] ∧ H' = H) ⟨_, rfl, rfl⟩ ?_ ?_
    · rintro k σ' H' hk ⟨y, rfl, rfl⟩
      walk_at "rd"
      rw [two_turn2]
      exact ⟨_, rfl, rfl⟩
    · rintro σ' H' ⟨y, rfl, rfl⟩
      walk_at "rd"
      exact q
theorem ok_law (T : Txt K mg) : FnOk P w K mg base CX0 4 T.f_law T.fd_law ["script"] (spLaw K) := by
  have G_rows := ok_rows (P := P) (w := w) (base := base) T
  have G_row_at := ok_row_at (P := P) (w := w) (base := base) T
  have G__law_cell_at := ok__law_cell_at (P := P) (w := w) (base := base) T
  have G__law_whole := ok__law_whole (P := P) (w := w) (base := base) T
  have G__law_twos := ok__law_twos (P := P) (w := w) (base := base) T
  have G_row_step := ok_row_step (P := P) (w := w) (base := base) T
  refine T.F_law.ok sc_law (fun vs H Q E h => ?_) (fun cdv A outer s H vs Q E hr h => ?_)
  · obtain ⟨_, _, rfl, _⟩ := h
    all_goals rfl
  · refine ⟨_, (pss_cons (ps_set (i := 1) sc_law.nd rfl (Or.inl rfl) (pe_op op_add pe_int (pe_op op_mod (pe_call G__law_cell_at (hr.mono (by decide)) (by rfl) T.g__law_cell_at T.F__law_cell_at.kp T.b__law_cell_at .nil pass0 (pa_cons (pv 0) (pa_cons pe_int pa_nil))) pe_int)))
      (pss_cons (ps_set (i := 2) sc_law.nd rfl (Or.inl rfl) (pe_call G_rows (hr.mono (by decide)) (by rfl) T.g_rows T.F_rows.kp T.b_rows .nil pass0 (pa_cons (pv 1) pa_nil)))
      (pss_cons (ps_if (PW.pt (pw_or (pt_not (pt_val (pe_call G__law_whole (hr.mono (by decide)) (by rfl) T.g__law_whole T.F__law_whole.kp T.b__law_whole .nil pass0 (pa_cons (pv 2) pa_nil)))) (pw_or1 (pt_cmpR op_ne (pv 2) (pe_call G__law_twos (hr.mono (by decide)) (by rfl) T.g__law_twos T.F__law_twos.kp T.b__law_twos .nil pass0 (pa_cons (pv 1) pa_nil)) (nomark _))))) (pss_one (ps_ret pe_bl)) pss_nil)
      (pss_cons (ps_set (i := 3) sc_law.nd rfl (Or.inl rfl) pe_dnewB)
      (pss_cons (ps_set (i := 4) sc_law.nd rfl (Or.inr rfl) (pe_call G_row_at (hr.mono (by decide)) (by rfl) T.g_row_at T.F_row_at.kp T.b_row_at .nil pass0 (pa_cons (pv 1) (pa_cons (pe_op op_sub (pv 2) pe_int) pa_nil))))
      (pss_cons (ps_for PassesOwn.never rfl (pi_range1 rfl T.m_range (pa_cons (pv 2) pa_nil)) (pg_name (i := 5) sc_law.nd rfl (Or.inl rfl)) (pss_cons (ps_set (i := 6) sc_law.nd rfl (Or.inr rfl) (pe_call G_row_at (hr.mono (by decide)) (by rfl) T.g_row_at T.F_row_at.kp T.b_row_at .nil pass0 (pa_cons (pv 1) (pa_cons (pv 5) pa_nil))))
      (pss_cons (ps_if (PW.pt (pw_or (pt_not (pt_val (pe_callB (show CallR _ _ (rIsi K) from call_isi) (by rfl) T.m_isinstance (by decide +kernel) (pa_cons (pv 6) (pa_cons (pe_bltn (v := .ty "list") (by rfl) T.m_list (by decide +kernel) rfl) pa_nil))))) (pw_or1 (pt_cmpR op_ne (pe_callB call_len_seq (by rfl) T.m_len PySem.boot_len (pa_cons (pv 6) pa_nil)) (pv 1) (nomark _))))) (pss_one (ps_ret pe_bl)) pss_nil)
      (pss_cons (ps_setLc (i := 7) (own := [("switch", 8)]) rfl sc_law.nd rfl rfl (sw_true rfl rfl rfl (by decide +kernel)) (pi_range1 rfl T.m_range (pa_cons (pv 1) pa_nil)) (blkOk_by (own := [("switch", 8)]) (N := N_law) (sc := defScope s_law) (by decide +kernel)) (fun _ _ _ _ _ => (pg_name (i := 8) sc_law.nd rfl (Or.inl rfl))) (fun _ _ _ _ _ => (pts_one (pt_cmpR op_ne (pe_ix (show IxR _ (rIxL K) from ix_list) (pv 6) (pv 8) (fun _ _ => rfl)) (pe_ix (show IxR _ (rIxL K) from ix_list) (pv 4) (pv 8) (fun _ _ => rfl)) (nomark _)))) (fun _ _ _ _ _ => (pv 8)))
      (pss_cons (ps_if (pt_cmpR op_gt (pe_callB call_len_seq (by rfl) T.m_len PySem.boot_len (pa_cons (pe_lc (own := [("on", 9)]) rfl sc_law.nd (pi_list (pv 6)) (blkOk_by (own := [("on", 9)]) (N := N_law) (sc := defScope s_law) (by decide +kernel)) (fun _ _ _ _ _ => (pg_name (i := 9) sc_law.nd rfl (Or.inl rfl))) (fun _ _ _ _ _ => (pts_one (pt_not (pt_val (pe_callB (show CallR _ _ (rIsi K) from call_isi) (by rfl) T.m_isinstance (by decide +kernel) (pa_cons (pv 9) (pa_cons (pe_bltn (v := .ty "bool") (by rfl) T.m_bool (by decide +kernel) rfl) pa_nil))))))) (fun _ _ _ _ _ => (pv 9))) pa_nil)) pe_int (nomark _)) (pss_one (ps_ret pe_bl)) pss_nil)
      (pss_cons (ps_if (PW.pt (pw_or (pt_cmpR (op_neD hr.units) (pv 7) (pe_lst (pa_cons (pe_call G_row_step (hr.mono (by decide)) (by rfl) T.g_row_step T.F_row_step.kp T.b_row_step .nil pass0 (pa_cons (pv 1) (pa_cons (pe_op op_mod (pe_op op_sub (pv 5) pe_int) (pv 2)) pa_nil))) pa_nil)) (nomark _)) (pw_or1 (pt_cmp (pc_dinB (hu_of hr) (pe_callTy call_tuple_of (by rfl) T.m_tuple (by decide +kernel) (pa_cons (pv 6) pa_nil)) (pv 3)) (by rfl))))) (pss_one (ps_ret pe_bl)) pss_nil)
      (pss_cons (ps_dputB (hu_of hr) (pv 3) (pe_callTy call_tuple_of (by rfl) T.m_tuple (by decide +kernel) (pa_cons (pv 6) pa_nil)) pe_bl rfl)
      (pss_one (ps_set (i := 4) sc_law.nd rfl (Or.inr rfl) (pv 6))))))))))
      (pss_one (ps_ret pe_bl)))))))), ?_⟩
    obtain ⟨a, ns, rfl, hS, hl, q⟩ := h
    walk_at "rd"
    refine ⟨a, ns, 0, rfl, hS, ?_⟩
    walk_at "rd"
    have s0 : 0 ≤ ns.getD 0 0 % 7 := Int.emod_nonneg _ (by decide)
    have s1 : ns.getD 0 0 % 7 < 7 := Int.emod_lt_of_pos _ (by decide)
    obtain ⟨n, hn⟩ := Int.eq_ofNat_of_zero_le (show 0 ≤ 1 + ns.getD 0 0 % 7 by omega)
    rw [hn]
    have hn1 : 0 < n := by omega
    have hn7 : n ≤ 7 := by omega
    clear hn s0 s1
    have pos : 0 < 2 ^ n := Nat.pow_pos (by decide)
    have bd : 2 ^ n ≤ 2 ^ 7 := Nat.pow_le_pow_right (by decide) hn7
    walk_at "rd"
    refine ⟨n, rfl, by omega, ?_⟩
    walk_at "rd"
    refine ⟨_, rfl, ?_⟩
    walk_at "rd"
    refine ⟨n, rfl, by omega, ?_⟩
    walk_at "rd"
    refine fun d nd => ?_
    walk_at "rd"
    refine ⟨n, 2 ^ n - 1, vi2 rfl (by omega), by omega, by omega, fun H2 b2 sm2 nb2 hb2 => ?_⟩
    have hd2 : DB P w H2 d [] := DB.new.same sm2
    walk_at "rd"
    refine for1 (n := 2 ^ n) (by omega) (fun i σ' H' => ∃ (b : Addr) (z1 z2 z3 z4 z5 : Option V), σ' = [some (.ref a), some (.int (n : Int)), some (.int ((2 ^ n : Nat) : Int)), some (.ref d), some (.ref b), z1, z2, z3, z4, z5] ∧
        DB P w H' d (firsts n i) ∧ H' b = some (.lst ((row n ((i + 2 ^ n - 1) % 2 ^ n)).map V.bl))) ?_ ?_ ?_
    · rw [show (0 + 2 ^ n - 1) % 2 ^ n = 2 ^ n - 1 by rw [Nat.zero_add]; exact Nat.mod_eq_of_lt (by omega)]
      exact ⟨b2, _, _, _, _, _, rfl, hd2, hb2⟩
    · rintro i σ' H3 hi ⟨b, z1, z2, z3, z4, z5, rfl, hd, hb⟩
      obtain ⟨j, hj⟩ : ∃ j, j = (i + 2 ^ n - 1) % 2 ^ n := ⟨_, rfl⟩
      have hjl : j < 2 ^ n := by
        rw [hj]
        exact Nat.mod_lt _ (by omega)
      have hji : (j + 1) % 2 ^ n = i := by
        rw [hj, Nat.mod_add_mod, show i + 2 ^ n - 1 + 1 = i + 2 ^ n by omega, Nat.add_mod_right, Nat.mod_eq_of_lt hi]
      rw [← hj] at hb
      have lenI := row_len n i
      have lenJ := row_len n j
      have slt := stepR_lt n j hn1
      have tn : ∀ k, k < n → (!((row n i).getD k false == (row n j).getD k false)) = decide (k = stepR n j) := fun k hk => by
        have t := turned_at (k := k) hjl hk
        rw [hji] at t
        exact t
      walk_at "rd"
      refine ⟨n, i, rfl, by omega, hi, fun H4 b4 sm4 nb4 hb4 => ?_⟩
      have hd4 := hd.same sm4
      have hbo := sm4 _ _ hb
      have hnew := firsts_new hi
      rw [show firsts n (i + 1) = firsts n i ++ [row n i] from firsts_more n i]
      have hfl := firsts_len n i
      generalize firsts n i = F at hd4 hnew hfl ⊢
      rw [show (i + 1 + 2 ^ n - 1) % 2 ^ n = i by rw [show i + 1 + 2 ^ n - 1 = i + 2 ^ n by omega, Nat.add_mod_right, Nat.mod_eq_of_lt hi]]
      generalize hA : row n j = A at *
      generalize hB : row n i = B at *
      walk_at "rd"
      refine isi_ll hb4 ?_
      walk_at "rd"
      refine rd_len (SqL.of hb4) ?_
      rw [List.length_map, lenI]
      walk_at "rd"
      refine lc_r (n := n) (by omega) ?_
      refine lc_pure (walk_rg (n := n)) (fun k => !(B.getD k false == A.getD k false)) (fun k => .int (k : Int)) (fun _ _ => True.intro) ?_ ?_
      · rintro D k x H5 H6 hk cp ⟨rfl, rfl⟩
        walk_at "rd"
        refine ⟨rfl, ?_⟩
        walk_at "rd"
        refine rd_at (SqL.of (cp.2.1 _ _ hb4)) (bls_at (getB (by omega))) ?_
        walk_at "rd"
        refine rd_at (SqL.of (cp.2.1 _ _ hbo)) (bls_at (getB (by omega))) ?_
        walk_at "rd"
        refine if_b2 (fun e => ?_) (fun e => ?_)
        · walk_at "rd"
          exact cp_yes cp (Same.refl _) (by omega) e rfl
        · exact cp_no cp (Same.refl _) e
      · intro D1 H5 nD1 sm5 hD1
        rw [given_at n tn, if_pos slt] at hD1
        walk_at "rd"
        have hb5 := sm5 _ _ hb4
        refine lc_a (SqL.of hb5) ?_
        refine lc_pure (walk_list (xs := B.map V.bl)) (fun _ => false) (fun _ => V.non) (fun H' s => SqL.of (s _ _ hb5)) ?_ ?_
        · rintro D k x H6 H7 hk cp ⟨rfl, hx⟩
          rw [List.length_map] at hk
          rw [bls_at (getB hk)] at hx
          obtain rfl := (Option.some.inj hx).symm
          walk_at "rd"
          refine ⟨rfl, ?_⟩
          walk_at "rd"
          refine isi_bb ?_
          walk_at "rd"
          exact cp_no cp (Same.refl _) rfl
        · intro D2 H6 nD2 sm6 hD2
          rw [given_nil] at hD2
          walk_at "rd"
          refine rd_len (SqL.of hD2) ?_
          walk_at "rd"
          rw [show ([] : List V).length = 0 from rfl]
          walk_at "rd"
          have em : ((i : Int) - 1) % ((2 ^ n : Nat) : Int) = (j : Int) := by
            by_cases c0 : i = 0
            · subst c0
              rw [hj, show (0 + 2 ^ n - 1) % 2 ^ n = 2 ^ n - 1 by rw [Nat.zero_add]; exact Nat.mod_eq_of_lt (by omega)]
              have : (((0 : Nat) : Int) - 1) = ((2 ^ n - 1 : Nat) : Int) + ((2 ^ n : Nat) : Int) * (-1) := by omega
              rw [this, Int.add_mul_emod_self_left]
              exact Int.emod_eq_of_lt (by omega) (by omega)
            · have : j = i - 1 := by
                rw [hj, show i + 2 ^ n - 1 = (i - 1) + 2 ^ n by omega, Nat.add_mod_right, Nat.mod_eq_of_lt (by omega)]
              rw [Int.emod_eq_of_lt (by omega) (by omega)]
              omega
          rw [em]
          refine ⟨n, j, rfl, by omega, hn1, hjl, ?_⟩
          walk_at "rd"
          refine rd_newL (by show 1 ≤ 100000; decide) fun t nt => ?_
          have hD1' := sm6 _ _ hD1
          refine rd_neI (ns := [((stepR n j : Nat) : Int)]) (SqL.of ((same_upd nt) _ _ hD1')) (SqL.of upd_same) ?_
          have smt := (sm5.trans sm6).trans (same_upd (o := .lst [V.int ((stepR n j : Nat) : Int)]) nt)
          have hd7 := hd4.same smt
          have hb7 := smt _ _ hb4
          generalize upd H6 t (.lst [V.int ((stepR n j : Nat) : Int)]) = H7 at smt hd7 hb7 ⊢
          walk_at "rd"
          refine rd_tupOf (SqL.of hb7) fun t2 nt2 => ?_
          walk_at "rd"
          refine ⟨d, t2, F, B, rfl, rfl, hd7.same (same_upd nt2), upd_same, ?_⟩
          rw [decide_eq_false hnew]
          have hd8 := hd7.same (same_upd (o := .tup (B.map V.bl)) nt2)
          have hb8 := same_upd (o := .tup (B.map V.bl)) nt2 _ _ hb7
          generalize upd H7 t2 (.tup (B.map V.bl)) = H8 at hd8 hb8 ⊢
          walk_at "rd"
          refine rd_tupOf (SqL.of hb8) fun t3 nt3 => ?_
          refine ⟨d, t3, F, B, rfl, rfl, hd8.same (same_upd nt3), upd_same, hnew, by omega, fun H9 hd9 fr => ?_⟩
          walk_at "rd"
          have hb9 := same_upd (o := .tup (B.map V.bl)) nt3 _ _ hb8
          refine ⟨b4, _, _, _, _, _, rfl, hd9, ?_⟩
          obtain ⟨xs, hx, _⟩ := hd8.same (same_upd (o := .tup (B.map V.bl)) nt3)
          rw [fr b4 (ne_of hb9 hx (by intro z; cases z))]
          exact hb9
    · rintro σ' H3 ⟨b, z1, z2, z3, z4, z5, rfl, hd, hb⟩
      walk_at "rd"
      exact q _
end
end One
namespace One
open PySem L2
/-! ### what the top has written; the head -/
theorem all_mk {l : PySem.W.OpenLaw} {w : World} {K : PySem.W.Frag} {h : Heap} {mg : Str → Option Value} {fa f0 f1 f2 f3 f4 f5 f6 f7 : Addr} (X : K.In h) (G : h.Ns mainGlobals mg) (hfa : mg "law" = some (.ref fa))
    {od0 an0 : Option Addr} {sl0 : Array (Option Value)} {oc0 kV0 dc0 pm0 cd0 ct0 : Value}
    {od1 an1 : Option Addr} {sl1 : Array (Option Value)} {oc1 kV1 dc1 pm1 cd1 ct1 : Value}
    {od2 an2 : Option Addr} {sl2 : Array (Option Value)} {oc2 kV2 dc2 pm2 cd2 ct2 : Value}
    {od3 an3 : Option Addr} {sl3 : Array (Option Value)} {oc3 kV3 dc3 pm3 cd3 ct3 : Value}
    {od4 an4 : Option Addr} {sl4 : Array (Option Value)} {oc4 kV4 dc4 pm4 cd4 ct4 : Value}
    {od5 an5 : Option Addr} {sl5 : Array (Option Value)} {oc5 kV5 dc5 pm5 cd5 ct5 : Value}
    {od6 an6 : Option Addr} {sl6 : Array (Option Value)} {oc6 kV6 dc6 pm6 cd6 ct6 : Value}
    {od7 an7 : Option Addr} {sl7 : Array (Option Value)} {oc7 kV7 dc7 pm7 cd7 ct7 : Value}
    {t_MOST : Tok}
    (a_rows : PySem.W.nsIn K mainGlobals "rows" = some (some (.ref f0)))
    (a_asked : PySem.W.nsIn K mainGlobals "asked" = some (some (.ref f1)))
    (a_row_at : PySem.W.nsIn K mainGlobals "row_at" = some (some (.ref f2)))
    (a_row_step : PySem.W.nsIn K mainGlobals "row_step" = some (some (.ref f3)))
    (a__law_cell_at : PySem.W.nsIn K mainGlobals "_law_cell_at" = some (some (.ref f4)))
    (a__law_whole : PySem.W.nsIn K mainGlobals "_law_whole" = some (some (.ref f5)))
    (a__law_twos : PySem.W.nsIn K mainGlobals "_law_twos" = some (some (.ref f6)))
    (a_law : PySem.W.nsIn K mainGlobals "law" = some (some (.ref f7)))
    (a_MOST : PySem.W.nsIn K mainGlobals "MOST" = some (some (.int 40 t_MOST)))
    (z_bool : PySem.W.nsIn K mainGlobals "bool" = some none)
    (z_int : PySem.W.nsIn K mainGlobals "int" = some none)
    (z_isinstance : PySem.W.nsIn K mainGlobals "isinstance" = some none)
    (z_len : PySem.W.nsIn K mainGlobals "len" = some none)
    (z_list : PySem.W.nsIn K mainGlobals "list" = some none)
    (z_range : PySem.W.nsIn K mainGlobals "range" = some none)
    (z_tuple : PySem.W.nsIn K mainGlobals "tuple" = some none)
    (l0 : K.lookup f0 = some ⟨oc0, od0, .func (PySem.W.fnOf "rows" "rows" (defArgs s_rows) (defBody s_rows) (defScope s_rows) .none kV0 dc0 pm0 an0 cd0 ct0), sl0⟩)
    (c0 : PySem.W.codeIn K cd0 "rows" = true)
    (k0 : PySem.W.keepIn K (.ref f0) = true)
    (l1 : K.lookup f1 = some ⟨oc1, od1, .func (PySem.W.fnOf "asked" "asked" (defArgs s_asked) (defBody s_asked) (defScope s_asked) .none kV1 dc1 pm1 an1 cd1 ct1), sl1⟩)
    (c1 : PySem.W.codeIn K cd1 "asked" = true)
    (k1 : PySem.W.keepIn K (.ref f1) = true)
    (l2 : K.lookup f2 = some ⟨oc2, od2, .func (PySem.W.fnOf "row_at" "row_at" (defArgs s_row_at) (defBody s_row_at) (defScope s_row_at) .none kV2 dc2 pm2 an2 cd2 ct2), sl2⟩)
    (c2 : PySem.W.codeIn K cd2 "row_at" = true)
    (k2 : PySem.W.keepIn K (.ref f2) = true)
    (l3 : K.lookup f3 = some ⟨oc3, od3, .func (PySem.W.fnOf "row_step" "row_step" (defArgs s_row_step) (defBody s_row_step) (defScope s_row_step) .none kV3 dc3 pm3 an3 cd3 ct3), sl3⟩)
    (c3 : PySem.W.codeIn K cd3 "row_step" = true)
    (k3 : PySem.W.keepIn K (.ref f3) = true)
    (l4 : K.lookup f4 = some ⟨oc4, od4, .func (PySem.W.fnOf "_law_cell_at" "_law_cell_at" (defArgs s__law_cell_at) (defBody s__law_cell_at) (defScope s__law_cell_at) .none kV4 dc4 pm4 an4 cd4 ct4), sl4⟩)
    (c4 : PySem.W.codeIn K cd4 "_law_cell_at" = true)
    (k4 : PySem.W.keepIn K (.ref f4) = true)
    (l5 : K.lookup f5 = some ⟨oc5, od5, .func (PySem.W.fnOf "_law_whole" "_law_whole" (defArgs s__law_whole) (defBody s__law_whole) (defScope s__law_whole) .none kV5 dc5 pm5 an5 cd5 ct5), sl5⟩)
    (c5 : PySem.W.codeIn K cd5 "_law_whole" = true)
    (k5 : PySem.W.keepIn K (.ref f5) = true)
    (l6 : K.lookup f6 = some ⟨oc6, od6, .func (PySem.W.fnOf "_law_twos" "_law_twos" (defArgs s__law_twos) (defBody s__law_twos) (defScope s__law_twos) .none kV6 dc6 pm6 an6 cd6 ct6), sl6⟩)
    (c6 : PySem.W.codeIn K cd6 "_law_twos" = true)
    (k6 : PySem.W.keepIn K (.ref f6) = true)
    (l7 : K.lookup f7 = some ⟨oc7, od7, .func (PySem.W.fnOf "law" "law" (defArgs s_law) (defBody s_law) (defScope s_law) .none kV7 dc7 pm7 an7 cd7 ct7), sl7⟩)
    (c7 : PySem.W.codeIn K cd7 "law" = true)
    (k7 : PySem.W.keepIn K (.ref f7) = true) :
    ∃ fd : FuncData, (∀ (s : Shared) (v : Value), BindsTo s fd ⟨[v], []⟩ [("script", v)]) ∧ ∀ base : Heap, K.In base → base.Ns mainGlobals mg → FnOk l.prog w K mg base CX0 4 fa fd ["script"] (spLaw K) := by
  have e := hfa.symm.trans (PySem.W.mg_of X G a_law)
  cases e
  have F0 := fun_mk (st := s_rows) l0 c0 k0
  have b0 := F0.binds (ps := ["size"]) fun _ _ _ _ _ _ us hl => match us, hl with | [_], _ => rfl
  have F1 := fun_mk (st := s_asked) l1 c1 k1
  have b1 := F1.binds (ps := ["size", "place"]) fun _ _ _ _ _ _ us hl => match us, hl with | [_, _], _ => rfl
  have F2 := fun_mk (st := s_row_at) l2 c2 k2
  have b2 := F2.binds (ps := ["size", "place"]) fun _ _ _ _ _ _ us hl => match us, hl with | [_, _], _ => rfl
  have F3 := fun_mk (st := s_row_step) l3 c3 k3
  have b3 := F3.binds (ps := ["size", "place"]) fun _ _ _ _ _ _ us hl => match us, hl with | [_, _], _ => rfl
  have F4 := fun_mk (st := s__law_cell_at) l4 c4 k4
  have b4 := F4.binds (ps := ["script", "k"]) fun _ _ _ _ _ _ us hl => match us, hl with | [_, _], _ => rfl
  have F5 := fun_mk (st := s__law_whole) l5 c5 k5
  have b5 := F5.binds (ps := ["found"]) fun _ _ _ _ _ _ us hl => match us, hl with | [_], _ => rfl
  have F6 := fun_mk (st := s__law_twos) l6 c6 k6
  have b6 := F6.binds (ps := ["size"]) fun _ _ _ _ _ _ us hl => match us, hl with | [_], _ => rfl
  have F7 := fun_mk (st := s_law) l7 c7 k7
  have b7 := F7.binds (ps := ["script"]) fun _ _ _ _ _ _ us hl => match us, hl with | [_], _ => rfl
  let T : Txt K mg := {f_rows := f0, F_rows := F0, b_rows := b0, f_asked := f1, F_asked := F1, b_asked := b1, f_row_at := f2, F_row_at := F2, b_row_at := b2, f_row_step := f3, F_row_step := F3, b_row_step := b3, f__law_cell_at := f4, F__law_cell_at := F4, b__law_cell_at := b4, f__law_whole := f5, F__law_whole := F5, b__law_whole := b5, f__law_twos := f6, F__law_twos := F6, b__law_twos := b6, f_law := fa, F_law := F7, b_law := b7, g_rows := PySem.W.mg_of X G a_rows, g_asked := PySem.W.mg_of X G a_asked, g_row_at := PySem.W.mg_of X G a_row_at, g_row_step := PySem.W.mg_of X G a_row_step, g__law_cell_at := PySem.W.mg_of X G a__law_cell_at, g__law_whole := PySem.W.mg_of X G a__law_whole, g__law_twos := PySem.W.mg_of X G a__law_twos, g_law := PySem.W.mg_of X G a_law, t_MOST := t_MOST, g_MOST := PySem.W.mg_of X G a_MOST, m_bool := PySem.W.mg_none_of X G z_bool, m_int := PySem.W.mg_none_of X G z_int, m_isinstance := PySem.W.mg_none_of X G z_isinstance, m_len := PySem.W.mg_none_of X G z_len, m_list := PySem.W.mg_none_of X G z_list, m_range := PySem.W.mg_none_of X G z_range, m_tuple := PySem.W.mg_none_of X G z_tuple, fd_rows := _, fd_asked := _, fd_row_at := _, fd_row_step := _, fd__law_cell_at := _, fd__law_whole := _, fd__law_twos := _, fd_law := _}
  exact ⟨PySem.W.fnOf "law" "law" (defArgs s_law) (defBody s_law) (defScope s_law) .none kV7 dc7 pm7 an7 cd7 ct7, fun s v => .of_eq rfl, fun base _ _ => ok_law (P := l.prog) (w := w) (base := base) T⟩
end One
open PySem PySem.W PyProof.Rows
set_option maxRecDepth 100000 in
set_option maxHeartbeats 0 in
theorem PySem.Challenge.cw_onestep_k04_whole_rows_once_holds : PySem.Challenge.rw_onestep_k04_whole_rows_once.Holds := by
  w_on; o_law; k_head; (case hw => w_witness2)
  k_fill
  refine L2.walk_of (l := PySem.Challenge.rw_onestep_k04_whole_rows_once) (n := 63) (k := 4) (x := "script") (CX := fun _ => L2.CX0) (sp := fun w => One.spLaw _) rfl (by decide) rfl ⟨rfl, by decide, by decide⟩ (fun w h Y => PySem.W.kIn_of Y) ?F (fun _ _ a ns hl _ hS => ⟨a, ns, rfl, hS, hl, fun _ => rfl⟩) (fun _ _ _ _ _ h => h)
  case F =>
    intro w mg fa h KX G hmg
    refine' One.all_mk KX G hmg ?a_rows ?a_asked ?a_row_at ?a_row_step ?a__law_cell_at ?a__law_whole ?a__law_twos ?a_law ?a_MOST ?z_bool ?z_int ?z_isinstance ?z_len ?z_list ?z_range ?z_tuple ?l0 ?c0 ?k0 ?l1 ?c1 ?k1 ?l2 ?c2 ?k2 ?l3 ?c3 ?k3 ?l4 ?c4 ?k4 ?l5 ?c5 ?k5 ?l6 ?c6 ?k6 ?l7 ?c7 ?k7
    (case a_rows => k_is)
    (case a_asked => k_is)
    (case a_row_at => k_is)
    (case a_row_step => k_is)
    (case a__law_cell_at => k_is)
    (case a__law_whole => k_is)
    (case a__law_twos => k_is)
    (case a_law => k_is)
    (case a_MOST => k_is)
    (case z_bool => k_is)
    (case z_int => k_is)
    (case z_isinstance => k_is)
    (case z_len => k_is)
    (case z_list => k_is)
    (case z_range => k_is)
    (case z_tuple => k_is)
    (case l0 => k_is)
    (case c0 => k_is)
    (case k0 => k_is)
    (case l1 => k_is)
    (case c1 => k_is)
    (case k1 => k_is)
    (case l2 => k_is)
    (case c2 => k_is)
    (case k2 => k_is)
    (case l3 => k_is)
    (case c3 => k_is)
    (case k3 => k_is)
    (case l4 => k_is)
    (case c4 => k_is)
    (case k4 => k_is)
    (case l5 => k_is)
    (case c5 => k_is)
    (case k5 => k_is)
    (case l6 => k_is)
    (case c6 => k_is)
    (case k6 => k_is)
    (case l7 => k_is)
    (case c7 => k_is)
    (case k7 => k_is)
