import PyProof.Rows.All
import Wide.All
import OpenK.AllK
import Wide.FinOn
import HandS.ForMost
import HandS.IsInst
import HandS.Conv
import HandS.More
import HandS.Walk
import HandS.RevRange
import HandS.Rev
import PySem.Challenge.RW_onestep_k09_orders_listed
set_option Elab.async false
set_option linter.all false
set_option maxRecDepth 100000
set_option maxHeartbeats 4000000
/-! ### one step of a reading at a time -/
namespace One
open PySem L2
section
variable {σ : L2.St} {H : Hp} {Q : VK} {D : Ends} {ta tb te : TE} {tt tu : TT} {t u : TS} {tr : TA} {g : TG}
theorem rd_var {i : Nat} (k : ∃ v, σ[i]? = some (some v) ∧ Q v H) : tVar i σ H Q := k
theorem rd_c {v : V} (k : Q v H) : tC v σ H Q := k
theorem rd_op {r : R2} (k : ta σ H fun x H1 => tb σ H1 fun y H2 => r x y H2 Q) : tOp r ta tb σ H Q := k
theorem rd_un {r : V → Hp → VK → Prop} (k : ta σ H fun x H1 => r x H1 Q) : tUn r ta σ H Q := k
theorem rd_neg {i : Int} (k : Q (.int (-i)) H) : rU (fun i => .int (-i)) (.int i) H Q := ⟨i, rfl, k⟩
theorem rd_i0 {f : Int → Int → V} {i j : Int} (k : Q (f i j) H) : rI0 f (.int i) (.int j) H Q := ⟨i, j, rfl, rfl, k⟩
theorem rd_i {C : Int → Int → Prop} {f : Int → Int → V} {i j : Int} (c : C i j) (k : Q (f i j) H) : rI C f (.int i) (.int j) H Q := ⟨i, j, rfl, rfl, c, k⟩
theorem rd_mul1 {f : Int → Int → V} {i j : Int} (c : -(2 ^ 64) < i ∧ i < 2 ^ 64) (k : Q (f i j) H) : rI CMul f (.int i) (.int j) H Q := ⟨i, j, rfl, rfl, .inl c, k⟩
theorem rd_mul2 {f : Int → Int → V} {i j : Int} (c : -(2 ^ 64) < j ∧ j < 2 ^ 64) (k : Q (f i j) H) : rI CMul f (.int i) (.int j) H Q := ⟨i, j, rfl, rfl, .inr c, k⟩
theorem rd_div {f : Int → Int → V} {i j : Int} (c : 0 < j ∧ j < 1073741824) (k : Q (f i j) H) : rI CDiv f (.int i) (.int j) H Q := ⟨i, j, rfl, rfl, c, k⟩
theorem rd_mod {f : Int → Int → V} {i j : Int} (c : 0 < j) (k : Q (f i j) H) : rI (fun _ j => 0 < j) f (.int i) (.int j) H Q := ⟨i, j, rfl, rfl, c, k⟩
theorem int_eq {i j : Int} : decide (V.int i = V.int j) = decide (i = j) := by
  by_cases h : i = j
  · rw [decide_eq_true h, decide_eq_true (by rw [h])]
  · rw [decide_eq_false h, decide_eq_false fun e => h (V.int.inj e)]
theorem bl_eq {i j : Bool} : decide (V.bl i = V.bl j) = (i == j) := by
  cases i <;> cases j <;> rfl
theorem rd_eq {i j : Int} (k : Q (.bl (decide (i = j))) H) : rEq (.int i) (.int j) H Q := ⟨rfl, by rw [int_eq]; exact k⟩
theorem rd_ne {i j : Int} (k : Q (.bl (!decide (i = j))) H) : rNe (.int i) (.int j) H Q := ⟨rfl, by rw [int_eq]; exact k⟩
theorem rd_eqB {i j : Bool} (k : Q (.bl (i == j)) H) : rEq (.bl i) (.bl j) H Q := ⟨rfl, by rw [bl_eq]; exact k⟩
theorem rd_neB {i j : Bool} (k : Q (.bl (!(i == j))) H) : rNe (.bl i) (.bl j) H Q := ⟨rfl, by rw [bl_eq]; exact k⟩
theorem rd_test {Q : Bool → Hp → Prop} (k : te σ H fun x H1 => ∃ k, x = .bl k ∧ Q k H1) : tTest te σ H Q := k
theorem rd_tB {Q : Bool → Hp → Prop} (k : te σ H fun x H1 => ∃ k, x = .bl k ∧ Q k H1) : tB te σ H Q := k
theorem rd_bl {b : Bool} {P : Bool → Prop} (k : P b) : ∃ k, V.bl b = .bl k ∧ P k := ⟨b, rfl, k⟩
theorem rd_and {Q : Bool → Hp → Prop} (k : tt σ H fun c H1 => if c = true then tu σ H1 Q else Q false H1) : tAnd tt tu σ H Q := k
theorem rd_or {Q : Bool → Hp → Prop} (k : tt σ H fun c H1 => if c = true then Q true H1 else tu σ H1 Q) : tOr tt tu σ H Q := k
theorem rd_not {Q : Bool → Hp → Prop} (k : tt σ H fun c H1 => Q (!c) H1) : tNot tt σ H Q := k
theorem rd_andV (k : ta σ H fun x H1 => ∃ c, x = .bl c ∧ if c = true then tb σ H1 Q else Q (.bl false) H1) : tAndV ta tb σ H Q := k
theorem rd_orV (k : ta σ H fun x H1 => ∃ c, x = .bl c ∧ if c = true then Q (.bl true) H1 else tb σ H1 Q) : tOrV ta tb σ H Q := k
theorem rd_notV (k : ta σ H fun x H1 => ∃ c, x = .bl c ∧ Q (.bl (!c)) H1) : tNotV ta σ H Q := k
theorem rd_ifx (k : tt σ H fun c H1 => if c = true then ta σ H1 Q else tb σ H1 Q) : tIf tt ta tb σ H Q := k
theorem rd_seq (k : t { D with nx := u D } σ H) : tSeq t u D σ H := k
theorem rd_next (k : D.nx σ H) : tNext D σ H := k
theorem rd_asg (k : te σ H fun x H1 => g x σ H1 D.nx) : tAsg te g D σ H := k
theorem rd_name {i : Nat} {v : V} {N : L2.St → Hp → Prop} (k : N (σ.set i (some v)) H) : gName i v σ H N := k
theorem rd_par {i j : Nat} {ta : TA} (k : ta σ H fun vs H1 => ∃ v w, vs = [v, w] ∧ D.nx ((σ.set i (some v)).set j (some w)) H1) : tPar i j ta D σ H := k
theorem rd_two {v w : V} {P : V → V → Prop} (k : P v w) : ∃ v' w', [v, w] = [v', w'] ∧ P v' w' := ⟨v, w, rfl, k⟩
theorem rd_drop (k : te σ H fun _ H1 => D.nx σ H1) : tDrop te D σ H := k
theorem rd_ret (k : te σ H D.rt) : tRet te D σ H := k
theorem rd_if (k : tt σ H fun b H1 => if b = true then t D σ H1 else u D σ H1) : tIfS tt t u D σ H := k
theorem rd_nil {Q : List V → Hp → Prop} (k : Q [] H) : tNil σ H Q := k
theorem rd_cons {Q : List V → Hp → Prop} (k : ta σ H fun x H1 => tr σ H1 fun xs H2 => Q (x :: xs) H2) : tCons ta tr σ H Q := k
theorem rd_cb {r : List V → Hp → VK → Prop} (k : tr σ H fun vs H1 => r vs H1 Q) : tCB r tr σ H Q := k
theorem rd_call {sp : Sp} {dvs : List V} {E : XK} (k : tr σ H fun vs H1 => sp (vs ++ dvs) H1 Q E) : tCall sp dvs E tr σ H Q := k
theorem rd_tup (k : tr σ H fun xs H1 => xs.length ≤ sizeLine ∧ ∀ p, H1 p = none → Q (.ref p) (upd H1 p (.tup xs))) : tTup tr σ H Q := k
theorem rd_lst (k : tr σ H fun xs H1 => xs.length ≤ sizeLine ∧ ∀ p, H1 p = none → Q (.ref p) (upd H1 p (.lst xs))) : tLst tr σ H Q := k
/-- the new thing's size is seen by its form; the new address is then for an intro -/
theorem rd_new {xs : List V} {P : Prop} (h : xs.length ≤ sizeLine) (k : P) : xs.length ≤ sizeLine ∧ P := ⟨h, k⟩
theorem rd_bm {K : PySem.W.Frag} {T : String} {r : V → List V → Hp → VK → Prop} (k : ta σ H fun x H1 => tyV K T x H1 ∧ tr σ H1 fun xs H2 => r x xs H2 Q) : tBM K T r ta tr σ H Q := k
theorem rd_sl {r : V → Option Int → Option Int → Hp → VK → Prop} {tl th : TO} (k : te σ H fun x H1 => tl σ H1 fun l H2 => th σ H2 fun u H3 => r x l u H3 Q) : tSl r te tl th σ H Q := k
theorem rd_nopart {Q : Option Int → Hp → Prop} (k : Q none H) : tNoPart σ H Q := k
theorem rd_part {Q : Option Int → Hp → Prop} (k : te σ H fun x H1 => ∃ i, x = .int i ∧ Q (some i) H1) : tPart te σ H Q := k
theorem rd_ni {i : Int} {P : Int → Prop} (k : P i) : ∃ j, V.int i = .int j ∧ P j := ⟨i, rfl, k⟩
/-- loops: the source's values first -/
def R1 (g : TG) (tb : TS) (D : Ends) (σ : L2.St) (vs : List V) (H : Hp) : Prop := ∃ j : Int, vs = [.int j] ∧ -(2 ^ 62) ≤ j ∧ j < 2 ^ 62 ∧ ∃ W : Nat → Nat → L2.St → Hp → Prop, (∃ m, W 0 m σ H) ∧ ∀ i m σ H, W i m σ H →
  ((Itr 0 j.toNat).stop i H ∧ D.nx σ H) ∨ ((Itr 0 j.toNat).go i H ∧ ∃ N : L2.St → Hp → Prop, (∀ σ' H', N σ' H' → ∃ m', m' < m ∧ W (i + 1) m' σ' H') ∧ ∀ x H', (Itr 0 j.toNat).yld i H x H' → g x σ H' fun σ2 H2 => tb { D with nx := N, ct := N, bk := D.nx } σ2 H2)
theorem rd_for1 {tb : TS} (k : tr σ H fun vs H1 => R1 g tb D σ vs H1) : tFor (iRng1 tr) g tb D σ H := k
/-- for i in range(n) -/
theorem for1 {tb : TS} {i n : Nat} (hn : n < 2 ^ 62) (Pv : Nat → L2.St → Hp → Prop) (h0 : Pv 0 σ H)
    (hs : ∀ k σ H, k < n → Pv k σ H → tb { D with nx := Pv (k + 1), ct := Pv (k + 1), bk := D.nx } (σ.set i (some (.int (k : Int)))) H) (hd : ∀ σ H, Pv n σ H → D.nx σ H) : R1 (gName i) tb D σ [.int (n : Int)] H :=
  ⟨n, rfl, by omega, by omega, for_range (lo := 0) (n := (n : Int).toNat) Pv h0 (fun k σ H hk p => by
    have e0 : (0 : Int) + (k : Int) = (k : Int) := Int.zero_add _
    show tb { D with nx := Pv (k + 1), ct := Pv (k + 1), bk := D.nx } (σ.set i (some (.int ((0 : Int) + (k : Int))))) H
    rw [e0]
    exact hs k σ H (by omega) p) hd⟩
def RL (K : PySem.W.Frag) (g : TG) (tb : TS) (D : Ends) (σ : L2.St) (x : V) (H : Hp) : Prop := ∃ a, x = .ref a ∧ (∃ xs, SqL K H a xs) ∧ ∃ W : Nat → Nat → L2.St → Hp → Prop, (∃ m, W 0 m σ H) ∧ ∀ i m σ H, W i m σ H →
  ((Itl K a).stop i H ∧ D.nx σ H) ∨ ((Itl K a).go i H ∧ ∃ N : L2.St → Hp → Prop, (∀ σ' H', N σ' H' → ∃ m', m' < m ∧ W (i + 1) m' σ' H') ∧ ∀ x H', (Itl K a).yld i H x H' → g x σ H' fun σ2 H2 => tb { D with nx := N, ct := N, bk := D.nx } σ2 H2)
theorem rd_forL {K : PySem.W.Frag} {tb : TS} (k : te σ H fun x H1 => RL K g tb D σ x H1) : tFor (iList K te) g tb D σ H := k
/-- for x in xs, a list that stands still -/
theorem forL {K : PySem.W.Frag} {tb : TS} {a : Addr} {xs : List V} (Pv : Nat → L2.St → Hp → Prop) (h0 : Pv 0 σ H) (hl : ∀ i σ H, i ≤ xs.length → Pv i σ H → SqL K H a xs)
    (hs : ∀ i x σ H, xs[i]? = some x → Pv i σ H → g x σ H fun σ2 H2 => tb { D with nx := Pv (i + 1), ct := Pv (i + 1), bk := D.nx } σ2 H2) (hd : ∀ σ H, Pv xs.length σ H → D.nx σ H) : RL K g tb D σ (.ref a) H :=
  ⟨a, rfl, ⟨xs, hl 0 σ H (Nat.zero_le _) h0⟩, for_list Pv h0 hl hs hd⟩
/-- while: the body's wish -/
def RW (W : Nat → L2.St → Hp → Prop) (m : Nat) (tb : TS) (D : Ends) (σ : L2.St) (H1 : Hp) : Prop := ∃ N : L2.St → Hp → Prop, (∀ σ' H', N σ' H' → ∃ m', m' < m ∧ W m' σ' H') ∧ tb { D with nx := N, ct := N, bk := D.nx } σ H1
theorem whil {tb : TS} (W : Nat → L2.St → Hp → Prop) (m0 : Nat) (h0 : W m0 σ H) (hs : ∀ m σ H, W m σ H → tt σ H fun b H1 => if b = true then RW W m tb D σ H1 else D.nx σ H1) : tWhile tt tb D σ H := ⟨W, ⟨m0, h0⟩, hs⟩
theorem whil_in {W : Nat → L2.St → Hp → Prop} {m : Nat} {tb : TS} (k : tb { D with nx := fun σ' H' => ∃ m', m' < m ∧ W m' σ' H', ct := fun σ' H' => ∃ m', m' < m ∧ W m' σ' H', bk := D.nx } σ H) : RW W m tb D σ H := ⟨_, fun _ _ h => h, k⟩
/-- for x in reversed(xs) -/
def RV (K : PySem.W.Frag) (g : TG) (tb : TS) (D : Ends) (σ : L2.St) (vs : List V) (H : Hp) : Prop := ∃ (a : Addr) (xs : List V), vs = [.ref a] ∧ SqL K H a xs ∧ ∃ W : Nat → Nat → L2.St → Hp → Prop, (∃ m, W 0 m σ H) ∧ ∀ i m σ H, W i m σ H →
  ((Itv K a xs.length).stop i H ∧ D.nx σ H) ∨ ((Itv K a xs.length).go i H ∧ ∃ N : L2.St → Hp → Prop, (∀ σ' H', N σ' H' → ∃ m', m' < m ∧ W (i + 1) m' σ' H') ∧ ∀ x H', (Itv K a xs.length).yld i H x H' → g x σ H' fun σ2 H2 => tb { D with nx := N, ct := N, bk := D.nx } σ2 H2)
theorem rd_forV {K : PySem.W.Frag} {tb : TS} (k : tr σ H fun vs H1 => RV K g tb D σ vs H1) : tFor (iRev K tr) g tb D σ H := k
theorem forV {K : PySem.W.Frag} {tb : TS} {a : Addr} {xs : List V} (Pv : Nat → L2.St → Hp → Prop) (h0 : Pv 0 σ H) (hl : ∀ i σ H, i ≤ xs.length → Pv i σ H → SqL K H a xs)
    (hs : ∀ i x σ H, i < xs.length → xs[xs.length - 1 - i]? = some x → Pv i σ H → g x σ H fun σ2 H2 => tb { D with nx := Pv (i + 1), ct := Pv (i + 1), bk := D.nx } σ2 H2) (hd : ∀ σ H, Pv xs.length σ H → D.nx σ H) : RV K g tb D σ [.ref a] H := by
  refine ⟨a, xs, rfl, hl 0 σ H (Nat.zero_le _) h0, fun i m σ H => m = xs.length - i ∧ i ≤ xs.length ∧ Pv i σ H, ⟨xs.length, by simp, Nat.zero_le _, h0⟩, ?_⟩
  rintro i m σ H ⟨rfl, hi, p⟩
  have q := hl i σ H hi p
  by_cases hlt : i < xs.length
  · have e : xs[xs.length - 1 - i]? = some (xs[xs.length - 1 - i]'(by omega)) := List.getElem?_eq_getElem (by omega)
    refine .inr ⟨⟨hlt, xs, _, q, e⟩, Pv (i + 1), fun σ' H' p' => ⟨xs.length - (i + 1), by omega, rfl, hlt, p'⟩, fun x H' y => ?_⟩
    obtain ⟨rfl, y⟩ := y
    exact hs i x _ _ hlt (y xs q) p
  · have e : i = xs.length := by omega
    subst e
    exact .inl ⟨Nat.le_refl _, hd σ H p⟩
end
/-! ### known branches -/
section
variable {A B : Prop}
theorem if_t (a : A) : if true = true then A else B := a
theorem if_f (b : B) : if false = true then A else B := by
  rw [if_neg Bool.false_ne_true]
  exact b
theorem if_ft (b : B) : if (!true) = true then A else B := if_f b
theorem if_tf (a : A) : if (!false) = true then A else B := a
theorem if_dt {p : Prop} [Decidable p] (h : p) (a : A) : if decide p = true then A else B := by
  rw [if_pos (decide_eq_true h)]
  exact a
theorem if_df {p : Prop} [Decidable p] (h : ¬ p) (b : B) : if decide p = true then A else B := by
  rw [if_neg (by simpa using h)]
  exact b
theorem if_nt {p : Prop} [Decidable p] (h : ¬ p) (a : A) : if (!decide p) = true then A else B := by
  rw [if_pos (by simpa using h)]
  exact a
theorem if_nf {p : Prop} [Decidable p] (h : p) (b : B) : if (!decide p) = true then A else B := by
  rw [if_neg (by simpa using h)]
  exact b
theorem if_d2 {p : Prop} [Decidable p] (a : p → A) (b : ¬ p → B) : if decide p = true then A else B := by
  by_cases h : p
  · exact if_dt h (a h)
  · exact if_df h (b h)
theorem if_n2 {p : Prop} [Decidable p] (a : ¬ p → A) (b : p → B) : if (!decide p) = true then A else B := by
  by_cases h : p
  · exact if_nf h (b h)
  · exact if_nt h (a h)
theorem if_b2 {c : Bool} (a : c = true → A) (b : c = false → B) : if c = true then A else B := by
  cases c with
  | true => exact a rfl
  | false => exact if_f (b rfl)
end
/-! ### heaps -/
theorem same_upd {H : Hp} {p : Addr} {o : HO} (h : H p = none) : Same H (upd H p o) := fun b x e => by
  rw [upd_ne (ne_of_none e h)]
  exact e
/-- a thing that H does not know may change -/
theorem same_mut {H H' : Hp} {p : Addr} {o : HO} (e : Same H H') (h : H p = none) : Same H (upd H' p o) := fun a u ha => by
  rw [upd_ne (ne_of_none ha h)]
  exact e a u ha
theorem same_list {K : PySem.W.Frag} {H H' : Hp} {a : Addr} {xs : List V} (e : Same H H') (h : SqL K H a xs) : SqL K H' a xs := e.seq h
theorem at_int {ns : List Int} {i : Nat} {x : V} (h : (ns.map V.int)[i]? = some x) : ∃ z, ns[i]? = some z ∧ x = V.int z := by
  rw [List.getElem?_map] at h
  cases e : ns[i]? with
  | none =>
    rw [e] at h
    cases h
  | some z =>
    rw [e] at h
    exact ⟨z, rfl, (Option.some.inj h).symm⟩
end One
/-! ### isinstance, lists, cells -/
namespace One
open PySem L2
section
variable {K : PySem.W.Frag} {σ : L2.St} {H : Hp} {Q : VK} {D : Ends}
theorem kit_ii : PySem.W.kitOne K (.type "int") (.type "int") = some true := kit_ty (by decide +kernel)
theorem kit_ib : PySem.W.kitOne K (.type "int") (.type "bool") = some false := kit_ty (by decide +kernel)
theorem kit_bb : PySem.W.kitOne K (.type "bool") (.type "bool") = some true := kit_ty (by decide +kernel)
theorem kit_ll : PySem.W.kitOne K (.type "list") (.type "list") = some true := kit_ty (by decide +kernel)
theorem kit_tt : PySem.W.kitOne K (.type "tuple") (.type "tuple") = some true := kit_ty (by decide +kernel)
theorem isi_ii {i : Int} (k : Q (.bl true) H) : rIsi K [.int i, .ty "int"] H Q := ⟨_, _, _, _, _, rfl, .ty _, .base (.int i), kit_ii, k⟩
theorem isi_ib {i : Int} (k : Q (.bl false) H) : rIsi K [.int i, .ty "bool"] H Q := ⟨_, _, _, _, _, rfl, .ty _, .base (.int i), kit_ib, k⟩
theorem isi_bb {i : Bool} (k : Q (.bl true) H) : rIsi K [.bl i, .ty "bool"] H Q := ⟨_, _, _, _, _, rfl, .ty _, .base (.bl i), kit_bb, k⟩
theorem isi_ll {a : Addr} {xs : List V} (h : H a = some (.lst xs)) (k : Q (.bl true) H) : rIsi K [.ref a, .ty "list"] H Q := ⟨_, _, _, _, _, rfl, .ty _, .base (.lst h), kit_ll, k⟩
theorem isi_tt {a : Addr} {xs : List V} (h : H a = some (.tup xs)) (k : Q (.bl true) H) : rIsi K [.ref a, .ty "tuple"] H Q := ⟨_, _, _, _, _, rfl, .ty _, .base (.tup h), kit_tt, k⟩
/-- len(xs) -/
theorem rd_len {a : Addr} {xs : List V} {P : List V → Prop} (h : SqL K H a xs) (k : P xs) : ∃ p ys, [V.ref a] = [.ref p] ∧ (SqL K H p ys ∨ SqT K H p ys) ∧ P ys := ⟨a, xs, rfl, .inl h, k⟩
theorem rd_lenT {a : Addr} {xs : List V} {P : List V → Prop} (h : SqT K H a xs) (k : P xs) : ∃ p ys, [V.ref a] = [.ref p] ∧ (SqL K H p ys ∨ SqT K H p ys) ∧ P ys := ⟨a, xs, rfl, .inr h, k⟩
/-- xs[i] -/
theorem rd_at {a : Addr} {xs : List V} {i : Nat} {v : V} (h : SqL K H a xs) (e : xs[i]? = some v) (k : Q v H) : rIxL K (.ref a) (.int (i : Int)) H Q := ⟨a, xs, i, v, rfl, rfl, h, atI_nat e, k⟩
theorem rd_atT {a : Addr} {xs : List V} {i : Nat} {v : V} (h : SqT K H a xs) (e : xs[i]? = some v) (k : Q v H) : rIxT K (.ref a) (.int (i : Int)) H Q := ⟨a, xs, i, v, rfl, rfl, h, atI_nat e, k⟩
theorem tyL {a : Addr} {xs : List V} (h : H a = some (.lst xs)) : tyV K "list" (.ref a) H := .inl ⟨rfl, _, .inl (.inl h)⟩
/-- xs.append(y) -/
theorem rd_app {a : Addr} {xs : List V} {y : V} (h : H a = some (.lst xs)) (hs : xs.length < 100000) (k : Q .non (upd H a (.lst (xs ++ [y])))) : rAppend (.ref a) [y] H Q := ⟨a, xs, y, rfl, rfl, h, Nat.lt_of_lt_of_le hs (by decide), k⟩
/-- xs + ys -/
theorem rd_cat {a b : Addr} {xs ys : List V} (h : H a = some (.lst xs)) (h2 : H b = some (.lst ys)) (hs : xs.length + ys.length ≤ 100000) (k : ∀ p, H p = none → Q (.ref p) (upd H p (.lst (xs ++ ys)))) : rCat (.ref a) (.ref b) H Q := ⟨a, b, xs, ys, rfl, rfl, h, h2, Nat.le_trans hs (by decide), k⟩
theorem rd_newL {n : Nat} {P : Prop} (hs : n ≤ 100000) (k : P) : n ≤ sizeLine ∧ P := ⟨Nat.le_trans hs (by decide), k⟩
theorem bls_at {bs : List Bool} {i : Nat} {b : Bool} (h : bs[i]? = some b) : (bs.map V.bl)[i]? = some (.bl b) := by
  rw [List.getElem?_map, h]
  rfl
theorem ints_at {bs : List Int} {i : Nat} {b : Int} (h : bs[i]? = some b) : (bs.map V.int)[i]? = some (.int b) := by
  rw [List.getElem?_map, h]
  rfl
end
end One
namespace One
open PySem L2
theorem vi1 {a b : Int} (h : a = b) : [V.int a] = [V.int b] := by rw [h]
theorem vi2 {a b c d : Int} (h : a = b) (h2 : c = d) : [V.int a, V.int c] = [V.int b, V.int d] := by rw [h, h2]
theorem vi3 {a b c d e f : Int} (h : a = b) (h2 : c = d) (h3 : e = f) : [V.int a, V.int c, V.int e] = [V.int b, V.int d, V.int f] := by rw [h, h2, h3]
theorem vr1 {p : Addr} {a b : Int} (h : a = b) : [V.ref p, V.int a] = [V.ref p, V.int b] := by rw [h]
/-- law's: a list of at most 63 ints is handed in, True comes out -/
def spLaw (K : PySem.W.Frag) : Sp := fun vs H Q _ => ∃ (a : Addr) (ns : List Int), vs = [.ref a] ∧ SqL K H a (ns.map V.int) ∧ ns.length ≤ 63 ∧ ∀ H', Q (.bl true) H'
end One
/-! ### two lists compared: ints, truths -/
namespace One
open PySem L2
section
variable {K : PySem.W.Frag} {H : Hp} {Q : VK}
def dInts (ns : List Int) : PyData := .list (ns.map PyData.int)
def dBls (ns : List Bool) : PyData := .list (ns.map PyData.bool)
theorem dpA_int : ∀ ns : List Int, DpAll K H (ns.map V.int) (ns.map PyData.int)
  | [] => .nil
  | n :: r => .cons (.int n) (dpA_int r)
theorem dpA_bl : ∀ ns : List Bool, DpAll K H (ns.map V.bl) (ns.map PyData.bool)
  | [] => .nil
  | n :: r => .cons (.bl n) (dpA_bl r)
theorem dp_ints {a : Addr} {ns : List Int} (h : SqL K H a (ns.map V.int)) : Dp K H (.ref a) (dInts ns) := .lst h (dpA_int ns)
theorem dp_bls {a : Addr} {ns : List Bool} (h : SqL K H a (ns.map V.bl)) : Dp K H (.ref a) (dBls ns) := .lst h (dpA_bl ns)
end
end One
namespace One
open PySem L2
theorem cl_ints : ∀ ns : List Int, PyData.canLayAll0 (ns.map PyData.int) = true
  | [] => rfl
  | n :: r => by
    show (PyData.canLay0 (.int n) && PyData.canLayAll0 (r.map PyData.int)) = true
    rw [cl_ints r]
    rfl
theorem cl_bls : ∀ ns : List Bool, PyData.canLayAll0 (ns.map PyData.bool) = true
  | [] => rfl
  | n :: r => by
    show (PyData.canLay0 (.bool n) && PyData.canLayAll0 (r.map PyData.bool)) = true
    rw [cl_bls r]
    rfl
theorem dep_ints : ∀ ns : List Int, PyData.depthAll (ns.map PyData.int) = 0
  | [] => rfl
  | n :: r => by
    show max (PyData.depth (.int n)) (PyData.depthAll (r.map PyData.int)) = 0
    rw [dep_ints r]
    rfl
theorem dep_bls : ∀ ns : List Bool, PyData.depthAll (ns.map PyData.bool) = 0
  | [] => rfl
  | n :: r => by
    show max (PyData.depth (.bool n)) (PyData.depthAll (r.map PyData.bool)) = 0
    rw [dep_bls r]
    rfl
theorem lay_ints (ns : List Int) : (dInts ns).canLay0 = true := cl_ints ns
theorem lay_bls (ns : List Bool) : (dBls ns).canLay0 = true := cl_bls ns
theorem shp_ints (ns : List Int) : SeqAt.shaped (dInts ns) = true := by
  have e : (dInts ns).depth = 1 := by
    show PyData.depthAll (ns.map PyData.int) + 1 = 1
    rw [dep_ints]
  unfold SeqAt.shaped
  rw [lay_ints, e]
  rfl
theorem shp_bls (ns : List Bool) : SeqAt.shaped (dBls ns) = true := by
  have e : (dBls ns).depth = 1 := by
    show PyData.depthAll (ns.map PyData.bool) + 1 = 1
    rw [dep_bls]
  unfold SeqAt.shaped
  rw [lay_bls, e]
  rfl
section
variable {K : PySem.W.Frag} {H : Hp} {Q : VK} {a b : Addr}
/-- equal lists: != gives False, == True -/
theorem rd_neI {ns : List Int} (ha : SqL K H a (ns.map V.int)) (hb : SqL K H b (ns.map V.int)) (k : Q (.bl false) H) : rNeD K (.ref a) (.ref b) H Q :=
  ⟨dInts ns, dInts ns, dp_ints ha, dp_ints hb, shp_ints ns, shp_ints ns, by rw [SeqAt.eqv_refl _ (lay_ints ns)]; exact k⟩
theorem rd_neBs {ns : List Bool} (ha : SqL K H a (ns.map V.bl)) (hb : SqL K H b (ns.map V.bl)) (k : Q (.bl false) H) : rNeD K (.ref a) (.ref b) H Q :=
  ⟨dBls ns, dBls ns, dp_bls ha, dp_bls hb, shp_bls ns, shp_bls ns, by rw [SeqAt.eqv_refl _ (lay_bls ns)]; exact k⟩
theorem rd_eqI {ns : List Int} (ha : SqL K H a (ns.map V.int)) (hb : SqL K H b (ns.map V.int)) (k : Q (.bl true) H) : rEqD K (.ref a) (.ref b) H Q :=
  ⟨dInts ns, dInts ns, dp_ints ha, dp_ints hb, shp_ints ns, shp_ints ns, by rw [SeqAt.eqv_refl _ (lay_ints ns)]; exact k⟩
theorem rd_eqBs {ns : List Bool} (ha : SqL K H a (ns.map V.bl)) (hb : SqL K H b (ns.map V.bl)) (k : Q (.bl true) H) : rEqD K (.ref a) (.ref b) H Q :=
  ⟨dBls ns, dBls ns, dp_bls ha, dp_bls hb, shp_bls ns, shp_bls ns, by rw [SeqAt.eqv_refl _ (lay_bls ns)]; exact k⟩
theorem rd_intB {b : Bool} {P : Int → Prop} (k : P (if b = true then 1 else 0)) : (∃ i, [V.bl b] = [.int i] ∧ P i) ∨ ∃ k, [V.bl b] = [.bl k] ∧ P (if k = true then 1 else 0) := .inr ⟨b, rfl, k⟩
theorem rd_listOf {xs : List V} {P : Addr → List V → Prop} (h : SqL K H a xs) (k : ∀ l, H l = none → P l xs) : ∃ p ys, [V.ref a] = [.ref p] ∧ (SqL K H p ys ∨ SqT K H p ys) ∧ ∀ l, H l = none → P l ys := ⟨a, xs, rfl, .inl h, k⟩
end
end One
namespace One
open PySem L2
/-- a list of natural numbers, as whole numbers -/
def zs (l : List Nat) : List Int := l.map fun (x : Nat) => (x : Int)
theorem zs_len (l : List Nat) : (zs l).length = l.length := List.length_map _
theorem zsV_len (l : List Nat) : ((zs l).map V.int).length = l.length := by rw [List.length_map, zs_len]
theorem zs_at {l : List Nat} {i x : Nat} (h : l[i]? = some x) : ((zs l).map V.int)[i]? = some (.int (x : Int)) := by
  rw [List.getElem?_map]
  unfold zs
  rw [List.getElem?_map, h]
  rfl
theorem zs_snoc (l : List Nat) (n : Nat) : (zs (l ++ [n])).map V.int = (zs l).map V.int ++ [.int (n : Int)] := by
  unfold zs
  rw [List.map_append, List.map_append]
  rfl
theorem zs_cons (l : List Nat) (n : Nat) : (zs (n :: l)).map V.int = .int (n : Int) :: (zs l).map V.int := rfl
section
variable {K : PySem.W.Frag} {H : Hp} {Q : VK}
/-- xs.insert(i, y) -/
theorem rd_ins {a : Addr} {xs : List V} {y : V} {z : Int} {i : Nat} {P : Addr → List V → Int → V → Prop} (hz : z = (i : Int)) (h : H a = some (.lst xs)) (hs : xs.length < 100000) (hi : i ≤ 100000) (k : P a xs (i : Int) y) :
    ∃ (l : Addr) (xs : List V) (i : Int) (y' : V), V.ref a = .ref l ∧ [V.int z, y] = [.int i, y'] ∧ H l = some (.lst xs) ∧ xs.length < sizeLine ∧ 0 ≤ i ∧ i < 2 ^ 63 ∧ P l xs i y' := by
  subst hz
  exact ⟨a, xs, i, y, rfl, rfl, h, Nat.lt_of_lt_of_le hs (by decide), by omega, by omega, k⟩
end
end One
/-! ### comprehensions -/
namespace One
open PySem L2
section
variable {K : PySem.W.Frag} {J : It} {n : Nat} {G : Hp → Prop} {Y : Nat → Hp → V → Hp → Prop} {σ : L2.St} {H H1 H' H4 : Hp} {Q : VK} {g : TG} {tt : TT} {te el : TE} {tr : TA} {vs : List Nat} {ws : Nat → List V} {D : Addr} {f : Nat → Bool} {v : Nat → V} {i : Nat} {y : V}
/-- the loop of a comprehension whose iterator has come -/
def Lc (J : It) (g : TG) (tt : TT) (el : TE) (vs : List Nat) (σ : L2.St) (Q : VK) (H1 : Hp) : Prop := ∀ D, H1 D = none → ∃ W : Nat → Nat → Hp → Prop, (∃ m, W 0 m (upd H1 D (.lst []))) ∧ ∀ i m H, W i m H →
  (J.stop i H ∧ Q (.ref D) H) ∨ (J.go i H ∧ ∃ Nx : Hp → Prop, (∀ H', Nx H' → ∃ m', m' < m ∧ W (i + 1) m' H') ∧ ∀ x H', J.yld i H x H' → g x (wipe σ vs) H' fun σ2 H2 => wipe σ2 vs = wipe σ vs ∧ tt σ2 H2 fun b H3 =>
    if b = true then el σ2 H3 fun y H4 => ∃ acc, H4 D = some (.lst acc) ∧ acc.length < sizeLine ∧ Nx (upd H4 D (.lst (acc ++ [y]))) else Nx H3)
theorem rd_lcL (k : te σ H fun x H1 => ∃ a, x = .ref a ∧ (∃ xs, SqL K H1 a xs) ∧ Lc (Itl K a) g tt el vs σ Q H1) : tLc (iList K te) g tt el vs σ H Q := k
theorem rd_lcV (k : tr σ H fun ws H1 => ∃ (a : Addr) (xs : List V), ws = [.ref a] ∧ SqL K H1 a xs ∧ Lc (Itv K a xs.length) g tt el vs σ Q H1) : tLc (iRev K tr) g tt el vs σ H Q := k
theorem rd_lcR (k : tr σ H fun ws H1 => ∃ j : Int, ws = [.int j] ∧ -(2 ^ 62) ≤ j ∧ j < 2 ^ 62 ∧ Lc (Itr 0 j.toNat) g tt el vs σ Q H1) : tLc (iRng1 tr) g tt el vs σ H Q := k
theorem lc_a {a : Addr} {xs : List V} {P : Addr → Prop} (h : SqL K H a xs) (k : P a) : ∃ b, V.ref a = .ref b ∧ (∃ xs, SqL K H b xs) ∧ P b := ⟨a, rfl, ⟨xs, h⟩, k⟩
theorem lc_v {a : Addr} {xs : List V} {P : Addr → List V → Prop} (h : SqL K H a xs) (k : P a xs) : ∃ (b : Addr) (ys : List V), [V.ref a] = [.ref b] ∧ SqL K H b ys ∧ P b ys := ⟨a, xs, rfl, h, k⟩
theorem lc_r {n : Nat} {P : Int → Prop} (hn : n < 2 ^ 62) (k : P (n : Int)) : ∃ j : Int, [V.int (n : Int)] = [.int j] ∧ -(2 ^ 62) ≤ j ∧ j < 2 ^ 62 ∧ P j := ⟨n, rfl, by omega, by omega, k⟩
/-- which turns give, and what -/
def given (n : Nat) (f : Nat → Bool) (v : Nat → V) : List V := ((List.range n).filter f).map v
theorem given_yes (h : f n = true) : given (n + 1) f v = given n f v ++ [v n] := by
  unfold given
  rw [List.range_succ, List.filter_append, List.map_append, List.filter_cons, if_pos h] <;> rfl
theorem given_no (h : f n = false) : given (n + 1) f v = given n f v := by
  unfold given
  rw [List.range_succ, List.filter_append, List.map_append, List.filter_cons, if_neg (by rw [h]; decide)]
  show _ ++ [] = _
  rw [List.append_nil]
theorem given_len (n : Nat) (f : Nat → Bool) (v : Nat → V) : (given n f v).length ≤ n := by
  unfold given
  rw [List.length_map]
  have h := List.length_filter_le f (List.range n)
  rw [List.length_range] at h
  exact h
def Cp (H1 : Hp) (D : Addr) (f : Nat → Bool) (v : Nat → V) (i : Nat) (H' : Hp) : Prop := H1 D = none ∧ Same H1 H' ∧ H' D = some (.lst (given i f v))
theorem cp_yes (p : Cp H1 D f v i H') (sm : Same H' H4) (hi : i < 100000) (hf : f i = true) (hy : y = v i) : ∃ acc, H4 D = some (.lst acc) ∧ acc.length < sizeLine ∧ Cp H1 D f v (i + 1) (upd H4 D (.lst (acc ++ [y]))) := by
  obtain ⟨p1, p2, p3⟩ := p
  refine ⟨given i f v, sm _ _ p3, Nat.lt_of_le_of_lt (given_len i f v) (Nat.lt_of_lt_of_le hi (by decide)), p1, same_mut (p2.trans sm) p1, ?_⟩
  rw [given_yes hf, hy]
  exact upd_same
theorem cp_no (p : Cp H1 D f v i H') (sm : Same H' H4) (hf : f i = false) : Cp H1 D f v (i + 1) H4 := by
  obtain ⟨p1, p2, p3⟩ := p
  refine ⟨p1, p2.trans sm, ?_⟩
  rw [given_no hf]
  exact sm _ _ p3
theorem walk_rg {n : Nat} : Walk (Itr 0 n) n (fun _ => True) (fun i H x H' => H' = H ∧ x = .int (i : Int)) :=
  ⟨fun _ _ hi _ => hi, fun _ _ => Nat.le_refl _, fun i _ _ _ _ _ y => ⟨y.1, y.2.trans (by rw [Int.zero_add])⟩⟩
/-- a comprehension of plain values -/
theorem lc_pure (w : Walk J n G Y) (f : Nat → Bool) (v : Nat → V) (hG : ∀ H', Same H1 H' → G H')
    (hs : ∀ D i x H H', i < n → Cp H1 D f v i H → Y i H x H' → g x (wipe σ vs) H' fun σ2 H2 => wipe σ2 vs = wipe σ vs ∧ tt σ2 H2 fun b H3 =>
      if b = true then el σ2 H3 fun y H4 => ∃ acc, H4 D = some (.lst acc) ∧ acc.length < sizeLine ∧ Cp H1 D f v (i + 1) (upd H4 D (.lst (acc ++ [y]))) else Cp H1 D f v (i + 1) H3)
    (hd : ∀ D H', H1 D = none → Same H1 H' → H' D = some (.lst (given n f v)) → Q (.ref D) H') : Lc J g tt el vs σ Q H1 := fun D hD =>
  lc_it w (Cp H1 D f v) ⟨hD, same_upd hD, upd_same⟩ (fun i H _ p => hG H p.2.1) (fun i x H H' hi p y => hs D i x H H' hi p y) fun H p => hd D H p.1 p.2.1 p.2.2
/-- a list of lists at a -/
def LL (H : Hp) (a : Addr) (ws : List (List V)) : Prop := ∃ ps : List Addr, H a = some (.lst (ps.map V.ref)) ∧ ps.length = ws.length ∧ ∀ (j : Nat) (p : Addr) (w : List V), ps[j]? = some p → ws[j]? = some w → H p = some (.lst w)
theorem LL.same {a : Addr} {ws : List (List V)} (h : LL H a ws) (sm : Same H H') : LL H' a ws := by
  obtain ⟨ps, h1, h2, h3⟩ := h
  exact ⟨ps, sm _ _ h1, h2, fun j p w a b => sm _ _ (h3 j p w a b)⟩
theorem LL.at {a : Addr} {ws : List (List V)} {j : Nat} {w : List V} (h : LL H a ws) (e : ws[j]? = some w) : ∃ (xs : List V) (p : Addr), H a = some (.lst xs) ∧ xs.length = ws.length ∧ xs[j]? = some (.ref p) ∧ H p = some (.lst w) := by
  obtain ⟨ps, h1, h2, h3⟩ := h
  obtain ⟨hj, _⟩ := List.getElem?_eq_some_iff.mp e
  have hp : ps[j]? = some (ps[j]'(by omega)) := List.getElem?_eq_getElem (by omega)
  exact ⟨_, _, h1, by rw [List.length_map, h2], by rw [List.getElem?_map, hp]; rfl, h3 j _ w hp e⟩
theorem LL.len {a : Addr} {ws : List (List V)} (h : LL H a ws) : ∃ xs : List V, H a = some (.lst xs) ∧ xs.length = ws.length := by
  obtain ⟨ps, h1, h2, h3⟩ := h
  exact ⟨_, h1, by rw [List.length_map, h2]⟩
theorem LL.cat {a b c : Addr} {ws us : List (List V)} {xs ys : List V} (h : LL H a ws) (h' : LL H b us) (e : H a = some (.lst xs)) (e' : H b = some (.lst ys)) (hc : H c = none) : LL (upd H c (.lst (xs ++ ys))) c (ws ++ us) := by
  obtain ⟨ps, h1, h2, h3⟩ := h
  obtain ⟨qs, k1, k2, k3⟩ := h'
  rw [h1] at e
  rw [k1] at e'
  cases e
  cases e'
  refine ⟨ps ++ qs, by rw [upd_same, List.map_append], by rw [List.length_append, List.length_append, h2, k2], fun j p w ej ew => ?_⟩
  have hp : H p = some (.lst w) := by
    by_cases hj : j < ps.length
    · rw [List.getElem?_append_left hj] at ej
      rw [List.getElem?_append_left (by omega)] at ew
      exact h3 j p w ej ew
    · rw [List.getElem?_append_right (by omega)] at ej
      rw [List.getElem?_append_right (by omega), ← h2] at ew
      exact k3 _ p w ej ew
  rw [upd_ne (ne_of_none hp hc)]
  exact hp
theorem LL_one {H : Hp} {a p : Addr} {w : List V} (h : H a = some (.lst [.ref p])) (hp : H p = some (.lst w)) : LL H a [w] := by
  refine ⟨[p], h, rfl, fun j q u e e2 => ?_⟩
  have hj : j = 0 := by
    have := (List.getElem?_eq_some_iff.mp e).1
    rw [List.length_singleton] at this
    omega
  subst hj
  cases e
  cases e2
  exact hp
/-- behind i turns: i lists, each of its own, none of them the new list itself -/
def Cl (H1 : Hp) (D : Addr) (ws : Nat → List V) (i : Nat) (H' : Hp) : Prop := H1 D = none ∧ Same H1 H' ∧ ∃ ps : List Addr, H' D = some (.lst (ps.map V.ref)) ∧ ps.length = i ∧ ∀ (j : Nat) (p : Addr), ps[j]? = some p → p ≠ D ∧ H' p = some (.lst (ws j))
theorem cl_new {ws : Nat → List V} {p : Addr} (c : Cl H1 D ws i H') (sm : Same H' H4) (hi : i < 100000) (hp : H4 p = some (.lst (ws i))) (hpD : p ≠ D) :
    ∃ acc, H4 D = some (.lst acc) ∧ acc.length < sizeLine ∧ Cl H1 D ws (i + 1) (upd H4 D (.lst (acc ++ [.ref p]))) := by
  obtain ⟨c1, c2, ps, h1, h2, h3⟩ := c
  refine ⟨ps.map V.ref, sm _ _ h1, Nat.lt_of_le_of_lt (by rw [List.length_map, h2]; exact Nat.le_refl _) (Nat.lt_of_lt_of_le hi (by decide)), c1, same_mut (c2.trans sm) c1, ps ++ [p], by rw [upd_same, List.map_append]; rfl, by rw [List.length_append, h2]; rfl, fun j q e => ?_⟩
  by_cases hj : j < ps.length
  · rw [List.getElem?_append_left hj] at e
    obtain ⟨k1, k2⟩ := h3 j q e
    exact ⟨k1, by rw [upd_ne k1]; exact sm _ _ k2⟩
  · rw [List.getElem?_append_right (by omega)] at e
    have hj2 : j - ps.length = 0 := by
      have := (List.getElem?_eq_some_iff.mp e).1
      rw [List.length_singleton] at this
      omega
    rw [hj2] at e
    cases e
    have : j = i := by omega
    subst this
    exact ⟨hpD, by rw [upd_ne hpD]; exact hp⟩
/-- a comprehension whose every turn gives a new list -/
theorem lc_lists (w : Walk J n G Y) (ws : Nat → List V) (hG : ∀ H', Same H1 H' → G H')
    (hs : ∀ D i x H H', i < n → Cl H1 D ws i H → Y i H x H' → g x (wipe σ vs) H' fun σ2 H2 => wipe σ2 vs = wipe σ vs ∧ tt σ2 H2 fun b H3 =>
      if b = true then el σ2 H3 fun y H4 => ∃ acc, H4 D = some (.lst acc) ∧ acc.length < sizeLine ∧ Cl H1 D ws (i + 1) (upd H4 D (.lst (acc ++ [y]))) else Cl H1 D ws (i + 1) H3)
    (hd : ∀ D H', H1 D = none → Same H1 H' → LL H' D ((List.range n).map ws) → Q (.ref D) H') : Lc J g tt el vs σ Q H1 := fun D hD =>
  lc_it w (Cl H1 D ws) ⟨hD, same_upd hD, [], by rw [upd_same]; rfl, rfl, fun j p e => by simp at e⟩ (fun i H _ p => hG H p.2.1) (fun i x H H' hi p y => hs D i x H H' hi p y) fun H p => by
    obtain ⟨c1, c2, ps, h1, h2, h3⟩ := p
    refine hd D H c1 c2 ⟨ps, h1, by rw [List.length_map, List.length_range, h2], fun j q u e e2 => ?_⟩
    have hj : j < n := by
      have := (List.getElem?_eq_some_iff.mp e).1
      omega
    rw [List.getElem?_map, List.getElem?_range hj] at e2
    cases e2
    exact (h3 j q e).2
theorem Cl.same (c : Cl H1 D ws i H') : Same H1 H' := c.2.1
theorem Cl.new (c : Cl H1 D ws i H') : ∃ xs, H' D = some (.lst xs) := by
  obtain ⟨c1, c2, ps, h1, h2, h3⟩ := c
  exact ⟨_, h1⟩
theorem tt_yes {Q : Bool → Hp → Prop} (k : Q true H) : tYes σ H Q := k
/-- what the turns of a comprehension over a list of naturals give -/
theorem given_filter (l : List Nat) (p : Nat → Bool) : given l.length (fun i => p (l.getD i 0)) (fun i => V.int ((l.getD i 0 : Nat) : Int)) = (zs (l.filter p)).map V.int := by
  have e : l = (List.range l.length).map (fun i => l.getD i 0) := by
    apply List.ext_getElem?
    intro j
    by_cases h : j < l.length
    · rw [List.getElem?_map, List.getElem?_range h, List.getElem?_eq_getElem h]
      show some l[j] = some (l.getD j 0)
      rw [List.getD_eq_getElem?_getD, List.getElem?_eq_getElem h]
      rfl
    · rw [List.getElem?_eq_none (by omega), List.getElem?_eq_none (by rw [List.length_map, List.length_range]; omega)]
  have e2 : l.filter p = ((List.range l.length).filter (p ∘ fun i => l.getD i 0)).map (fun i => l.getD i 0) := by
    have h : ((List.range l.length).map (fun i => l.getD i 0)).filter p = ((List.range l.length).filter (p ∘ fun i => l.getD i 0)).map (fun i => l.getD i 0) := List.filter_map
    rw [← e] at h
    exact h
  rw [e2]
  unfold given zs
  rw [List.map_map, List.map_map]
  rfl
theorem given_out (A B : List Nat) : given A.length (fun i => !B.contains (A.getD i 0)) (fun i => V.int ((A.getD i 0 : Nat) : Int)) = (zs (A.filter (fun x => !B.contains x))).map V.int := given_filter A fun x => !B.contains x
theorem dec_beq (x g : Nat) : decide ((x : Int) = (g : Int)) = (x == g) := by
  by_cases h : x = g
  · rw [decide_eq_true (by omega), beq_iff_eq.mpr h]
  · rw [decide_eq_false (by omega), beq_eq_false_iff_ne.mpr h]
theorem given_but (A : List Nat) (g : Nat) : given A.length (fun i => !(A.getD i 0 == g)) (fun i => V.int ((A.getD i 0 : Nat) : Int)) = (zs (A.filter (fun x => !(x == g)))).map V.int := given_filter A fun x => !(x == g)
theorem getD_at {l : List Nat} {i x : Nat} (h : l[i]? = some x) : l.getD i 0 = x := by
  rw [List.getD_eq_getElem?_getD, h]
  rfl
theorem zs_get {l : List Nat} {i : Nat} {v : V} (h : ((zs l).map V.int)[i]? = some v) : v = .int ((l.getD i 0 : Nat) : Int) := by
  rw [List.getElem?_map] at h
  unfold zs at h
  rw [List.getElem?_map] at h
  cases e : l[i]? with
  | none =>
    rw [e] at h
    cases h
  | some x =>
    rw [e] at h
    cases h
    rw [getD_at e]
theorem zs_got {l : List Nat} {i : Nat} {v : V} (h : ((zs l).map V.int)[i]? = some v) : ∃ x, l[i]? = some x ∧ v = .int (x : Int) := by
  rw [List.getElem?_map] at h
  unfold zs at h
  rw [List.getElem?_map] at h
  cases e : l[i]? with
  | none =>
    rw [e] at h
    cases h
  | some x =>
    rw [e] at h
    cases h
    exact ⟨x, rfl, rfl⟩
theorem flat_zs : ∀ l : List Nat, ((zs l).map V.int).all flatV = true
  | [] => rfl
  | x :: l => by
    rw [zs_cons, List.all_cons, flat_zs l]
    rfl
theorem inV_zs (x : Nat) : ∀ l : List Nat, inV (.int (x : Int)) ((zs l).map V.int) = l.contains x
  | [] => rfl
  | y :: l => by
    have ih := inV_zs x l
    have e : inV (.int (x : Int)) ((zs (y :: l)).map V.int) = (eqV (.int (y : Int)) (.int (x : Int)) || inV (.int (x : Int)) ((zs l).map V.int)) := rfl
    rw [e, ih, List.contains_cons]
    congr 1
    show (((y : Int)) == ((x : Int))) = (x == y)
    by_cases h : x = y
    · subst h
      simp
    · rw [beq_eq_false_iff_ne.mpr h, beq_eq_false_iff_ne.mpr (by omega)]
theorem rd_notin {b : Addr} {l : List Nat} {x : Nat} (h : SqL K H b ((zs l).map V.int)) (k : Q (.bl (!l.contains x)) H) : rIn K true (.int (x : Int)) (.ref b) H Q :=
  ⟨b, _, rfl, .inl h, rfl, flat_zs l, by rw [inV_zs]; exact k⟩
theorem rd_isin {b : Addr} {l : List Nat} {x : Nat} (h : SqL K H b ((zs l).map V.int)) (k : Q (.bl (l.contains x)) H) : rIn K false (.int (x : Int)) (.ref b) H Q :=
  ⟨b, _, rfl, .inl h, rfl, flat_zs l, by rw [inV_zs]; exact k⟩
end
end One
/-! ### ranges backwards, lists of tuples, slices -/
namespace One
open PySem L2
section
variable {K : PySem.W.Frag} {σ : L2.St} {H H' : Hp} {Q : VK} {D : Ends} {ta tb : TE} {g : TG} {tb' : TS}
def RRR (g : TG) (tb : TS) (D : Ends) (σ : L2.St) (a b : Int) (H : Hp) : Prop := -(2 ^ 62) ≤ a ∧ a < 2 ^ 62 ∧ -(2 ^ 62) ≤ b ∧ b < 2 ^ 62 ∧ ∃ W : Nat → Nat → L2.St → Hp → Prop, (∃ m, W 0 m σ H) ∧ ∀ i m σ H, W i m σ H →
  ((Itc (a + (((b - a).toNat : Nat) : Int) - 1) (-1) (b - a).toNat).stop i H ∧ D.nx σ H) ∨ ((Itc (a + (((b - a).toNat : Nat) : Int) - 1) (-1) (b - a).toNat).go i H ∧ ∃ N : L2.St → Hp → Prop, (∀ σ' H', N σ' H' → ∃ m', m' < m ∧ W (i + 1) m' σ' H') ∧
    ∀ x H', (Itc (a + (((b - a).toNat : Nat) : Int) - 1) (-1) (b - a).toNat).yld i H x H' → g x σ H' fun σ2 H2 => tb { D with nx := N, ct := N, bk := D.nx } σ2 H2)
theorem rd_forRR {tr : L2.St → Hp → (Int → Int → Hp → Prop) → Prop} {tb : TS} (k : tr σ H fun a b H1 => RRR g tb D σ a b H1) : tFor (iRevR tr) g tb D σ H := k
theorem rd_rg2 {Q : Int → Int → Hp → Prop} (k : ta σ H fun x H1 => tb σ H1 fun y H2 => ∃ i j, x = .int i ∧ y = .int j ∧ Q i j H2) : tRg2 ta tb σ H Q := k
theorem rd_rg1 {Q : Int → Int → Hp → Prop} (k : ta σ H fun x H1 => ∃ n, x = .int n ∧ Q 0 n H1) : tRg1 ta σ H Q := k
theorem rd_ij {a b : Int} {P : Int → Int → Prop} (k : P a b) : ∃ i j, V.int a = .int i ∧ V.int b = .int j ∧ P i j := ⟨a, b, rfl, rfl, k⟩
theorem rd_lstRg {te : L2.St → Hp → (Int → Int → Hp → Prop) → Prop} (k : te σ H fun a b H1 => RgOk a b ∧ ∀ q, H1 q = none → Q (.ref q) (upd H1 q (.lst (rgV a b)))) : tLstRg te σ H Q := k
/-- for i in reversed(range(1, n + 1)) -/
theorem forRR {tb : TS} {j n : Nat} (hn : n ≤ 1000) (Pv : Nat → L2.St → Hp → Prop) (h0 : Pv 0 σ H)
    (hs : ∀ i σ H, i < n → Pv i σ H → tb { D with nx := Pv (i + 1), ct := Pv (i + 1), bk := D.nx } (σ.set j (some (.int ((n - i : Nat) : Int)))) H) (hd : ∀ σ H, Pv n σ H → D.nx σ H) : RRR (gName j) tb D σ 1 ((n : Int) + 1) H := by
  have e : ((n : Int) + 1 - 1).toNat = n := by omega
  refine ⟨by omega, by omega, by omega, by omega, ?_⟩
  rw [e]
  refine for_it walk_rangeC Pv h0 (fun _ _ _ _ _ => True.intro) (fun i x σ H H' hi p y => ?_) hd
  obtain ⟨rfl, rfl⟩ := y
  have e2 : (1 : Int) + (n : Int) - 1 + (i : Int) * (-1) = ((n - i : Nat) : Int) := by omega
  show tb { D with nx := Pv (i + 1), ct := Pv (i + 1), bk := D.nx } (σ.set j (some (.int (1 + (n : Int) - 1 + (i : Int) * (-1))))) _
  rw [e2]
  exact hs i σ _ hi p
/-- a list of tuples at a -/
def TL (H : Hp) (a : Addr) (ws : List (List V)) : Prop := ∃ ps : List Addr, H a = some (.lst (ps.map V.ref)) ∧ ps.length = ws.length ∧ ∀ (j : Nat) (p : Addr) (w : List V), ps[j]? = some p → ws[j]? = some w → H p = some (.tup w)
theorem TL.same {a : Addr} {ws : List (List V)} (h : TL H a ws) (sm : Same H H') : TL H' a ws := by
  obtain ⟨ps, h1, h2, h3⟩ := h
  exact ⟨ps, sm _ _ h1, h2, fun j p w a b => sm _ _ (h3 j p w a b)⟩
theorem TL.len {a : Addr} {ws : List (List V)} (h : TL H a ws) : ∃ xs : List V, H a = some (.lst xs) ∧ xs.length = ws.length := by
  obtain ⟨ps, h1, h2, h3⟩ := h
  exact ⟨_, h1, by rw [List.length_map, h2]⟩
theorem TL.at {a : Addr} {ws : List (List V)} {xs : List V} {j : Nat} {x : V} {w : List V} (h : TL H a ws) (hx : H a = some (.lst xs)) (ex : xs[j]? = some x) (e : ws[j]? = some w) : ∃ p : Addr, x = .ref p ∧ H p = some (.tup w) := by
  obtain ⟨ps, h1, h2, h3⟩ := h
  rw [h1] at hx
  cases hx
  rw [List.getElem?_map] at ex
  cases hp : ps[j]? with
  | none =>
    rw [hp] at ex
    cases ex
  | some p =>
    rw [hp] at ex
    cases ex
    exact ⟨p, rfl, h3 j p w hp e⟩
theorem TL.app {a p : Addr} {ws : List (List V)} {xs w : List V} (h : TL H a ws) (hx : H a = some (.lst xs)) (hp : H p = some (.tup w)) : TL (upd H a (.lst (xs ++ [.ref p]))) a (ws ++ [w]) := by
  obtain ⟨ps, h1, h2, h3⟩ := h
  rw [h1] at hx
  cases hx
  refine ⟨ps ++ [p], by rw [upd_same, List.map_append]; rfl, by rw [List.length_append, List.length_append, h2]; rfl, fun j q u e e2 => ?_⟩
  have hq : H q = some (.tup u) := by
    by_cases hj : j < ps.length
    · rw [List.getElem?_append_left hj] at e
      rw [List.getElem?_append_left (by omega)] at e2
      exact h3 j q u e e2
    · rw [List.getElem?_append_right (by omega)] at e
      rw [List.getElem?_append_right (by omega), ← h2] at e2
      have hj2 : j - ps.length = 0 := by
        have := (List.getElem?_eq_some_iff.mp e).1
        rw [List.length_singleton] at this
        omega
      rw [hj2] at e e2
      cases e
      cases e2
      exact hp
  rw [upd_ne (ne_of hq h1 (by intro z; cases z))]
  exact hq
theorem tup3 {i j l : Nat} {q : Addr} {x y z : V} {N : L2.St → Hp → Prop} (h : SqT K H q [x, y, z]) (k : N (((σ.set i (some x)).set j (some y)).set l (some z)) H) : gTup K 3 (gCons (gName i) (gCons (gName j) (gCons (gName l) gNil))) (.ref q) σ H N :=
  ⟨q, _, rfl, h, rfl, x, _, rfl, y, _, rfl, z, _, rfl, rfl, k⟩
theorem tup2 {i j : Nat} {q : Addr} {x y : V} {N : L2.St → Hp → Prop} (h : SqT K H q [x, y]) (k : N ((σ.set i (some x)).set j (some y)) H) : gTup K 2 (gCons (gName i) (gCons (gName j) gNil)) (.ref q) σ H N :=
  ⟨q, _, rfl, h, rfl, x, _, rfl, y, _, rfl, rfl, k⟩
/-- xs[:k], xs[k:] -/
theorem cut_to (xs : List V) (k : Nat) : cutV xs none (some (k : Int)) = xs.take k := by
  unfold cutV
  rw [HT.sIx_nat, HT.sIx_none, List.drop_zero, Nat.sub_zero]
  by_cases h : k ≤ xs.length
  · rw [Nat.min_eq_left h]
  · rw [Nat.min_eq_right (by omega), List.take_length, List.take_of_length_le (by omega)]
theorem cut_from (xs : List V) (k : Nat) : cutV xs (some (k : Int)) none = xs.drop k := by
  unfold cutV
  rw [HT.sIx_nat, HT.sIx_none]
  by_cases h : k ≤ xs.length
  · rw [Nat.min_eq_left h, List.take_of_length_le (by rw [List.length_drop]; exact Nat.le_refl _)]
  · rw [Nat.min_eq_right (by omega), List.drop_length, List.drop_of_length_le (by omega), List.take_nil]
theorem rd_slice {a : Addr} {xs : List V} {P : Addr → List V → Prop} (h : SqL K H a xs) (k : P a xs) : ∃ b ys, V.ref a = .ref b ∧ SqL K H b ys ∧ P b ys := ⟨a, xs, rfl, h, k⟩
theorem rgV_zs (n : Nat) : rgV 0 (n : Int) = (zs (List.range n)).map V.int := by
  unfold rgV zs
  rw [List.map_map, show ((n : Int) - 0).toNat = n by omega]
  apply List.map_congr_left
  intro x _
  show V.int (0 + (x : Int)) = V.int (x : Int)
  rw [Int.zero_add]
theorem zs_append (A B : List Nat) : (zs (A ++ B)).map V.int = (zs A).map V.int ++ (zs B).map V.int := by
  unfold zs
  rw [List.map_append, List.map_append]
theorem zs_take (A : List Nat) (i : Nat) : (zs (A.take i)).map V.int = ((zs A).map V.int).take i := by
  unfold zs
  rw [List.map_take, List.map_take]
theorem zs_drop (A : List Nat) (i : Nat) : (zs (A.drop i)).map V.int = ((zs A).map V.int).drop i := by
  unfold zs
  rw [List.map_drop, List.map_drop]
end
/-- two sorted lists of the same things are one -/
theorem sorted_one : ∀ {A B : List Int}, A.Perm B → A.Pairwise (· ≤ ·) → B.Pairwise (· ≤ ·) → A = B
  | [], B, p, _, _ => by
    have := p.length_eq
    cases B with
    | nil => rfl
    | cons b B => simp at this
  | a :: A, [], p, _, _ => by
    have := p.length_eq
    simp at this
  | a :: A, b :: B, p, hA, hB => by
    obtain ⟨a1, a2⟩ := List.pairwise_cons.mp hA
    obtain ⟨b1, b2⟩ := List.pairwise_cons.mp hB
    have e : a = b := by
      have h1 : a ∈ b :: B := p.mem_iff.mp (by simp)
      have h2 : b ∈ a :: A := p.mem_iff.mpr (by simp)
      rcases List.mem_cons.mp h1 with q | q
      · exact q
      · rcases List.mem_cons.mp h2 with r | r
        · exact r.symm
        · have := a1 b r
          have := b1 a q
          omega
    subst e
    rw [sorted_one (List.Perm.cons_inv p) a2 b2]
theorem sorted_range {o : List Nat} {n : Nat} {S : List Int} (pm : S.Perm (zs o)) (h : o.Perm (List.range n)) (st : S.Pairwise (· ≤ ·)) : S = zs (List.range n) := by
  refine sorted_one (pm.trans (h.map _)) st ?_
  unfold zs
  refine List.pairwise_map.mpr ?_
  exact List.pairwise_lt_range.imp fun h => by omega
end One
namespace One
open PySem L2
section
variable {K : PySem.W.Frag} {J : It} {n : Nat} {G : Hp → Prop} {Y : Nat → Hp → V → Hp → Prop} {σ : L2.St} {H H1 H' H4 : Hp} {Q : VK} {g : TG} {tt : TT} {te el : TE} {vs : List Nat} {ws : Nat → List V} {D : Addr} {i : Nat}
/-- behind i turns: i tuples -/
def Ct (H1 : Hp) (D : Addr) (ws : Nat → List V) (i : Nat) (H' : Hp) : Prop := H1 D = none ∧ Same H1 H' ∧ TL H' D ((List.range i).map ws)
theorem ct_new {p : Addr} (c : Ct H1 D ws i H') (sm : Same H' H4) (hi : i < 100000) (hp : H4 p = some (.tup (ws i))) :
    ∃ acc, H4 D = some (.lst acc) ∧ acc.length < sizeLine ∧ Ct H1 D ws (i + 1) (upd H4 D (.lst (acc ++ [.ref p]))) := by
  obtain ⟨c1, c2, c3⟩ := c
  obtain ⟨xs, hx, hl⟩ := (c3.same sm).len
  rw [List.length_map, List.length_range] at hl
  refine ⟨xs, hx, Nat.lt_of_le_of_lt (Nat.le_of_eq hl) (Nat.lt_of_lt_of_le hi (by decide)), c1, same_mut (c2.trans sm) c1, ?_⟩
  rw [List.range_succ, List.map_append]
  exact (c3.same sm).app hx hp
/-- a comprehension whose every turn gives a new tuple -/
theorem lc_tups (w : Walk J n G Y) (ws : Nat → List V) (hG : ∀ H', Same H1 H' → G H')
    (hs : ∀ D i x H H', i < n → Ct H1 D ws i H → Y i H x H' → g x (wipe σ vs) H' fun σ2 H2 => wipe σ2 vs = wipe σ vs ∧ tt σ2 H2 fun b H3 =>
      if b = true then el σ2 H3 fun y H4 => ∃ acc, H4 D = some (.lst acc) ∧ acc.length < sizeLine ∧ Ct H1 D ws (i + 1) (upd H4 D (.lst (acc ++ [y]))) else Ct H1 D ws (i + 1) H3)
    (hd : ∀ D H', H1 D = none → Same H1 H' → TL H' D ((List.range n).map ws) → Q (.ref D) H') : Lc J g tt el vs σ Q H1 := fun D hD =>
  lc_it w (Ct H1 D ws) ⟨hD, same_upd hD, [], by rw [upd_same]; rfl, rfl, fun j p w e => by simp at e⟩ (fun i H _ p => hG H p.2.1) (fun i x H H' hi p y => hs D i x H H' hi p y) fun H p => hd D H p.1 p.2.1 p.2.2
/-- the second part of a pair -/
def keyOf (H : Hp) : V → Nat
  | .ref t => match H t with
    | some (.tup [_, .int k]) => k.toNat
    | _ => 0
  | _ => 0
theorem keyOf_at {t : Addr} {x : V} {k : Nat} (h : H t = some (.tup [x, .int (k : Int)])) : keyOf H (.ref t) = k := by
  show (match H t with
    | some (.tup [_, .int k]) => k.toNat
    | _ => 0) = k
  rw [h]
  exact Int.toNat_natCast k
theorem TL.keys {a : Addr} {xs : List V} {w : Nat → V} (h : TL H a ((List.range n).map fun j => [w j, V.int (j : Int)])) (hx : H a = some (.lst xs)) : xs.map (keyOf H) = List.range n ∧ ∀ x ∈ xs, ∃ (t : Addr) (k j : Nat), x = .ref t ∧ j < n ∧ k = j ∧ H t = some (.tup [w j, .int (k : Int)]) := by
  obtain ⟨ps, h1, h2, h3⟩ := h
  rw [List.length_map, List.length_range] at h2
  rw [h1] at hx
  cases hx
  have at_ : ∀ j p, ps[j]? = some p → j < n ∧ H p = some (.tup [w j, .int (j : Int)]) := fun j p e => by
    have hj : j < n := by
      have := (List.getElem?_eq_some_iff.mp e).1
      omega
    exact ⟨hj, h3 j p _ e (by rw [List.getElem?_map, List.getElem?_range hj]; rfl)⟩
  constructor
  · apply List.ext_getElem?
    intro j
    rw [List.getElem?_map, List.getElem?_map]
    cases e : ps[j]? with
    | none =>
      rw [List.getElem?_eq_none (by rw [List.length_range]; have := List.getElem?_eq_none_iff.mp e; omega)]
      rfl
    | some p =>
      obtain ⟨hj, hp⟩ := at_ j p e
      rw [List.getElem?_range hj]
      show some (keyOf H (.ref p)) = some j
      rw [keyOf_at hp]
  · intro x hx
    rw [List.mem_map] at hx
    obtain ⟨p, hp, rfl⟩ := hx
    obtain ⟨j, hj, e⟩ := List.getElem_of_mem hp
    obtain ⟨hjn, hq⟩ := at_ j p (by rw [List.getElem?_eq_getElem hj, e])
    exact ⟨p, j, j, rfl, hjn, rfl, hq⟩
theorem given_all {α : Type} (ys : List α) (d : α) (w : α → V) : given ys.length (fun _ => true) (fun i => w (ys.getD i d)) = ys.map w := by
  unfold given
  rw [List.filter_eq_self.mpr (fun _ _ => rfl)]
  apply List.ext_getElem?
  intro j
  by_cases h : j < ys.length
  · rw [List.getElem?_map, List.getElem?_range h, List.getElem?_map, List.getElem?_eq_getElem h]
    show some (w (ys.getD j d)) = some (w ys[j])
    rw [List.getD_eq_getElem?_getD, List.getElem?_eq_getElem h]
    rfl
  · rw [List.getElem?_eq_none (by rw [List.length_map, List.length_range]; omega), List.getElem?_eq_none (by rw [List.length_map]; omega)]
end
end One
/-! ### a dict whose keys are tuples of numbers -/
namespace One
open PySem L2
section
variable {K : PySem.W.Frag} {σ : L2.St} {H H' : Hp} {Q : VK} {D : Ends} {ty td tv : TE}
def keyI (l : List Nat) : List L2.Key := (zs l).map Sum.inl
theorem keyI_V (l : List Nat) : (keyI l).map kV = (zs l).map V.int := by
  unfold keyI
  rw [List.map_map]
  rfl
theorem keyI_inj : ∀ {a b : List Nat}, keyI a = keyI b → a = b
  | [], [], _ => rfl
  | [], _ :: _, h => by cases h
  | _ :: _, [], h => by cases h
  | x :: a, y :: b, h => by
    have h1 : (Sum.inl (x : Int) : L2.Key) = Sum.inl (y : Int) := (List.cons.inj h).1
    have h2 : keyI a = keyI b := (List.cons.inj h).2
    have h3 : (x : Int) = (y : Int) := Sum.inl.inj h1
    rw [keyI_inj h2, show x = y by omega]
theorem rd_newT (k : ∀ p, H p = none → Q (.ref p) (upd H p (.dT []))) : tDNewT σ H Q := k
theorem rd_din (k : ty σ H fun y H1 => td σ H1 fun x H2 => ∃ a o, x = .ref a ∧ DGet H2 a y o ∧ Q (.bl o.isSome) H2) : tDIn ty td σ H Q := k
theorem rd_dput (k : tv σ H fun v H1 => td σ H1 fun x H2 => ty σ H2 fun y H3 => ∃ a H4, x = .ref a ∧ DPut H3 a y v H4 ∧ D.nx σ H4) : sDPut td ty tv D σ H := k
theorem din_at {a b : Addr} {kvs : List (List L2.Key × V)} {l : List Nat} {P : Option V → Prop} (h : H a = some (.dT kvs)) (hb : H b = some (.tup ((zs l).map V.int))) (k : P (valV kvs (keyI l))) : ∃ a' o, V.ref a = .ref a' ∧ DGet H a' (.ref b) o ∧ P o :=
  ⟨a, _, rfl, DGet.t h (by rw [keyI_V]; exact hb), k⟩
theorem dput_at {a b : Addr} {kvs : List (List L2.Key × V)} {l : List Nat} {v : V} {N : L2.St → Hp → Prop} (h : H a = some (.dT kvs)) (hb : H b = some (.tup ((zs l).map V.int))) (hl : kvs.length < 100000) (k : N σ (upd H a (.dT (putK kvs (keyI l) v)))) : ∃ a' H4, V.ref a = .ref a' ∧ DPut H a' (.ref b) v H4 ∧ N σ H4 :=
  ⟨a, _, rfl, DPut.t h (by rw [keyI_V]; exact hb) (Nat.lt_of_lt_of_le hl (by decide)), k⟩
theorem rd_tupOf {a : Addr} {xs : List V} {P : Addr → List V → Prop} {R : Addr → List V → Prop} (h : SqL K H a xs) (k : ∀ l, H l = none → P l xs) : ∃ p ys, [V.ref a] = [.ref p] ∧ ((SqL K H p ys ∧ ∀ l, H l = none → P l ys) ∨ R p ys) := ⟨a, xs, rfl, .inl ⟨h, k⟩⟩
/-- equal pairs -/
def dTup (ns : List Int) : PyData := .tuple (ns.map PyData.int)
theorem shp_tup (ns : List Int) : SeqAt.shaped (dTup ns) = true := by
  have e : (dTup ns).depth = 1 := by
    show PyData.depthAll (ns.map PyData.int) + 1 = 1
    rw [dep_ints]
  have e2 : (dTup ns).canLay0 = true := cl_ints ns
  unfold SeqAt.shaped
  rw [e2, e]
  rfl
theorem rd_neT {a b : Addr} {ns : List Int} (ha : SqT K H a (ns.map V.int)) (hb : SqT K H b (ns.map V.int)) (k : Q (.bl false) H) : rNeD K (.ref a) (.ref b) H Q :=
  ⟨dTup ns, dTup ns, .tup ha (dpA_int ns), .tup hb (dpA_int ns), shp_tup ns, shp_tup ns, by rw [SeqAt.eqv_refl (dTup ns) (cl_ints ns)]; exact k⟩
end
end One
/-! ### list(reversed(xs)): a rule of my own, over the library's walk of a reversed list -/
namespace One
open PySem PySem.Spec PyProof.Rows L2
section
variable {prog : Program} {w : World} {A : Around} {E : Value → Shared → Prop} {s : Shared}
/-- what stands behind a run that fills S out of the iterator: all else but the two is as it was -/
def Filled (s : Shared) (S it : Addr) (items : Array Value) (R : Heap → Nat → Prop) : Prop := ∀ (h' : Heap) (tk : Nat) (acc : Array Value) (c : Nat), (∀ b o, b ≠ S → b ≠ it → s.heap.get? b = some o → h'.get? b = some o) →
  h'.get? S = some { cls := .type "list", dict := none, data := .seq acc c, slots := #[] } → ItemsOf (fun i v => items[items.size - 1 - i]? = some v) acc items.size → R h' tk
theorem fill_rev {it l S : Addr} {items : Array Value} {res : Value} {c0 : Nat} {R : Result → Shared → Prop} (hh : A.handled = none) (hit : s.heap.IsRevIter it l ((items.size : Int) - 1)) (hl : s.heap.IsList l items) (hne : l ≠ it)
    (hn : items.size ≤ sizeLine) (hS : s.heap.get? S = some { cls := .type "list", data := .seq #[] c0 }) (n1 : S ≠ it) (n2 : S ≠ l) (hR : Filled s S it items fun h' tk => R (.ok (.ret res)) { s with heap := h', toks := tk }) :
    wpAny (model prog w) A.in1 (Builtin.List.listExtendWith (.ref S) (.ref it) res)
      (fun fin s' => match fin with | .done f => R (.ok f) s' | .again c' => c'.quiet = true ∧ codeAny (model prog w) A c' R s') (fun e s' => R (.error e) s') s := by
  have W := (Walks.listRev (prog := prog) (w := w) (A := A.in1) hh it l hne items).toS
  have hSf : S ∉ [it, l] := by simp only [List.mem_cons, List.not_mem_nil, or_false, not_or]; exact ⟨n1, n2⟩
  have hT : s.TypeIs (.ref it) "list_reverseiterator" := hit.typeIs
  have same : Builtin.List.listSameRef (.ref S) (.ref it) = false := by simp [Builtin.List.listSameRef, n1]
  unfold Builtin.List.listExtendWith
  refine wpAny_bind (wpAny_typeOf hT ?_)
  rw [if_neg (by rw [same]; decide)]
  refine wpAny_bind (wpAny_pyIter_revIter hit (wpAny_bind (wpAny_holding ?_)))
  unfold Builtin.List.listLengthHint
  refine wpAny_bind (wpAny_specialOf hT RT.nolen_lri ?_)
  show wpAny _ _ (specialOf (Value.ref it) (Str.ofString "__length_hint__") >>= _) _ _ _
  refine wpAny_bind (wpAny_specialOf hT RT.hint_lri ?_)
  generalize hid : ("list_reverseiterator.__length_hint__" : String) = id0
  wp_delta
  rw [show splitId id0 = some ("list_reverseiterator", "__length_hint__") from by subst hid; decide +kernel]
  subst hid
  refine wpAny_bind (wpAny_isInstance (b := true) hT (by rw [isSubtype_type]; kernel_rfl) (wpAny_pure ?_))
  rw [if_neg (by decide)]
  have e0 : ((items.size : Nat) : Int) - 1 - ((0 : Nat) : Int) = (items.size : Int) - 1 := by omega
  refine wpAny_pure ⟨plainId_quiet F.plain_extend_loop _, codeAny_extend_loopS W hn _ hSf _ items.size 0 _ _ _ rfl (Nat.zero_le _) ⟨Nat.zero_le _, by rw [e0]; exact hit, hl⟩ hS (ItemsOf.nil _) fun s1 acc c1 hm hS1 hacc => ?_⟩
  rw [Moved.eq_with hm]
  refine hR s1.heap s1.toks acc c1 (fun b o hb hb2 e => hm.heap b o (fun z => ?_) e) hS1 hacc
  rcases List.mem_cons.mp z with z | z
  · exact hb z
  · exact hb2 (List.mem_singleton.mp z)
theorem list_rev {it l : Addr} {items : Array Value} {Q : Value → Shared → Prop} (hh : A.handled = none) (hit : s.heap.IsRevIter it l ((items.size : Int) - 1)) (hl : s.heap.IsList l items) (hne : l ≠ it) (hn : items.size ≤ sizeLine)
    (hQ : ∀ (h' : Heap) (tk : Nat) (acc : Array Value) (c : Nat), (∀ b o, b ≠ it → s.heap.get? b = some o → h'.get? b = some o) → h'.get? s.heap.objs.size = some { cls := .type "list", dict := none, data := .seq acc c, slots := #[] } →
      ItemsOf (fun i v => items[items.size - 1 - i]? = some v) acc items.size → Q (.ref s.heap.objs.size) { s with heap := h', toks := tk }) :
    wpAny (model prog w) A (call (.type "list") [.ref it]) Q E s := by
  obtain ⟨oi, hoi, _⟩ := id hit
  obtain ⟨ol, hol, _⟩ := id hl
  have n1 : s.heap.objs.size ≠ it := Nat.ne_of_gt (Heap.lt_size hoi)
  have n2 : s.heap.objs.size ≠ l := Nat.ne_of_gt (Heap.lt_size hol)
  refine callType_codes (Q₁ := fun obj s₁ => obj = .ref s.heap.objs.size ∧ s₁ = { s with heap := s.heap.push { cls := .type "list", data := .seq #[] } }) F.called_list (F.typeCall_list_1 _) F.entry_list_init (code_list_new _ ⟨rfl, rfl⟩) fun obj s₁ h₁ => ?_
  obtain ⟨rfl, rfl⟩ := h₁
  have hS : (s.heap.push { cls := .type "list", data := .seq #[] }).get? s.heap.objs.size = some { cls := .type "list", data := .seq #[] } := Heap.get?_push_size _ rfl
  refine ⟨⟨_, hS, rfl⟩, F.args_list_init_2 _ _, ?_⟩
  show wpAny _ _ (do let old ← Builtin.List.listItems (.ref s.heap.objs.size); Builtin.List.listUpdate (.ref s.heap.objs.size) (fun _ => #[]); letGo old.toList.reverse; Builtin.List.listExtendWith (.ref s.heap.objs.size) (.ref it) .none) _ _ _
  refine wpAny_bind ?_
  unfold Builtin.List.listItems
  refine wpAny_bind (wpAny_seqItems hS rfl (wpAny_pure ?_))
  show wpAny _ _ (updateSeq s.heap.objs.size (fun _ => #[]) >>= fun _ => letGo (#[] : Array Value).toList.reverse >>= fun _ => Builtin.List.listExtendWith (.ref s.heap.objs.size) (.ref it) .none) _ _ _
  refine wpAny_bind (wpAny_updateSeq hS rfl (wpAny_bind (wpAny_letGo ?_)))
  have hS2 := Heap.get?_update_self (Obj.mapSeq (fun _ => (#[] : Array Value))) hS rfl
  have oth : ∀ b o, b ≠ s.heap.objs.size → s.heap.get? b = some o → ((s.heap.push { cls := .type "list", data := .seq #[] }).update s.heap.objs.size (Obj.mapSeq (fun _ => (#[] : Array Value)))).get? b = some o :=
    fun b o hb e => (Heap.get?_update_other _ _ (Ne.symm hb)).trans (Heap.get?_push_of_some _ e)
  refine fill_rev (A := A.in1) hh (hit.at fun o e => oth it o n1.symm e) (hl.at fun o e => oth l o n2.symm e) hne hn hS2 n1 n2 fun h' tk acc c hk hS' hacc => ?_
  exact ⟨rfl, hQ h' tk acc c (fun b o hb e => hk b o (Nat.ne_of_lt (Heap.lt_size e)) hb (oth b o (Nat.ne_of_lt (Heap.lt_size e)) e)) hS' hacc⟩
end
/-- list(reversed(x)), x a list: a new list -/
def tLstRev (K : PySem.W.Frag) (te : TE) : TE := fun σ H Q => te σ H fun v H1 => ∃ (a : Addr) (xs : List V), v = .ref a ∧ SqL K H1 a xs ∧ ∀ q, H1 q = none → Q (.ref q) (upd H1 q (.lst xs.reverse))
theorem pe_lstRev {X : Cx} {e : Expr} {te : TE} {p p2 pos pos2 : Pos} (hc : X.calm = true) (hg : Gl X "list") (hm : X.mg "list" = none) (hg2 : Gl X "reversed") (hm2 : X.mg "reversed" = none) (he : PE X e te)
    (hs : starEach [e] X.env = (false, eval e X.env) :: starEach [] X.env := by rfl) (hs2 : starEach [.Call (.Name "reversed" p2) [e] [] pos2] X.env = (false, eval (.Call (.Name "reversed" p2) [e] [] pos2) X.env) :: starEach [] X.env := by rfl) :
    PE X (.Call (.Name "list" p) [.Call (.Name "reversed" p2) [e] [] pos2] [] pos) (tLstRev X.K te) := by
  refine ⟨fun pins s σ H Q I h => ?_⟩
  refine Call_ (ld_blt I hg hm boot_list (PyProof.Rows.callWith_type1 (args_cons (Call_ (ld_blt I hg2 hm2 PyProof.Rows.boot_reversed (PyProof.Rows.callWith_type1 (args_cons (thn (he.run pins s σ H _ I h) fun u s1 hu => args_nil ?_) hs) hs rfl))) hs2) hs2 rfl))
  obtain ⟨v, H1, I1, r1, a, xs, rfl, hq, q⟩ := hu
  obtain rfl : u = Value.ref a := r1
  obtain ⟨its, rv, p', hz⟩ := I1.list hq
  refine call_reversed_list p'.isList (args_nil ?_)
  have hn : its.toArray.size ≤ sizeLine := by rw [List.size_toArray, ← rv.length]; exact hz
  obtain ⟨ol, hol, _⟩ := id p'.isList
  refine list_rev (s := { s1 with heap := s1.heap.push (revObj a ((its.toArray.size : Int) - 1)) }) (I1.ok.hd hc) ⟨_, Heap.get?_push_size _ rfl, rfl, rfl⟩ (p'.isList.push _) (Nat.ne_of_lt (Heap.lt_size hol)) hn fun h' tk acc c hk hS hi => ?_
  have le : s1.heap.objs.size ≤ (s1.heap.push (revObj a ((its.toArray.size : Int) - 1))).objs.size := by rw [Heap.size_push]; exact Nat.le_succ _
  have keep : ∀ b o, s1.heap.get? b = some o → h'.get? b = some o := fun b o z => hk b o (Nat.ne_of_lt (Heap.lt_size z)) (Heap.get?_push_of_some _ z)
  refine ⟨.ref _, upd H1 _ (.lst xs.reverse), I1.laid (t' := tk) keep le (show ObjOk X.prog X.w _ _ _ (.lst xs.reverse) from ⟨by rw [List.length_reverse]; exact hz, acc.toList, c, RT.vals_rev rv hi, ?_⟩), rfl, q _ (I1.hok.fresh le)⟩
  rw [Array.toArray_toList]
  exact hS
theorem rd_lstRev {K : PySem.W.Frag} {σ : L2.St} {H : Hp} {Q : VK} {te : TE} (k : te σ H fun v H1 => ∃ (a : Addr) (xs : List V), v = .ref a ∧ SqL K H1 a xs ∧ ∀ q, H1 q = none → Q (.ref q) (upd H1 q (.lst xs.reverse))) : tLstRev K te σ H Q := k
end One
/-! ### the mathematics of orders -/
namespace One
def fact : Nat → Nat
  | 0 => 1
  | n + 1 => fact n * (n + 1)
theorem fact_pos : ∀ n, 0 < fact n
  | 0 => by decide
  | n + 1 => Nat.mul_pos (fact_pos n) (by omega)
theorem fact_le : ∀ {m n : Nat}, m ≤ n → fact m ≤ fact n
  | m, 0, h => by
    have : m = 0 := by omega
    subst this
    exact Nat.le_refl _
  | m, n + 1, h => by
    by_cases c : m = n + 1
    · subst c
      exact Nat.le_refl _
    · have := fact_le (show m ≤ n by omega)
      have h2 : fact n * 1 ≤ fact n * (n + 1) := Nat.mul_le_mul_left _ (by omega)
      rw [Nat.mul_one] at h2
      exact Nat.le_trans this h2
/-- x put in behind i of l -/
def ins (x i : Nat) (l : List Nat) : List Nat := l.take i ++ [x] ++ l.drop i
theorem ins_len {x i : Nat} {l : List Nat} (h : i ≤ l.length) : (ins x i l).length = l.length + 1 := by
  unfold ins
  rw [List.length_append, List.length_append, List.length_take, List.length_drop]
  show min i l.length + 1 + (l.length - i) = l.length + 1
  omega
/-- where the thing n goes: t, from the end at an even elder place -/
def slot (n e t : Nat) : Nat := if e % 2 = 0 then n - t else t
/-- the order on a place -/
def ordAt : Nat → Nat → List Nat
  | 0, _ => []
  | n + 1, p => ins n (slot n (p / (n + 1)) (p % (n + 1))) (ordAt n (p / (n + 1)))
theorem slot_le {n e t : Nat} (h : t ≤ n) : slot n e t ≤ n := by
  unfold slot
  split <;> omega
theorem ordAt_len : ∀ n p, (ordAt n p).length = n
  | 0, _ => rfl
  | n + 1, p => by
    have h := ordAt_len n (p / (n + 1))
    have ht : p % (n + 1) ≤ n := by
      have := Nat.mod_lt p (show n + 1 > 0 by omega)
      omega
    show (ins n (slot n (p / (n + 1)) (p % (n + 1))) (ordAt n (p / (n + 1)))).length = n + 1
    rw [ins_len (by rw [h]; exact slot_le ht), h]
theorem ins_mem {x i y : Nat} {l : List Nat} : y ∈ ins x i l ↔ y = x ∨ y ∈ l := by
  unfold ins
  rw [List.mem_append, List.mem_append, List.mem_singleton]
  constructor
  · rintro ((h | h) | h)
    · exact .inr (List.mem_of_mem_take h)
    · exact .inl h
    · exact .inr (List.mem_of_mem_drop h)
  · rintro (h | h)
    · exact .inl (.inr h)
    · rw [← List.take_append_drop i l] at h
      rcases List.mem_append.mp h with h | h
      · exact .inl (.inl h)
      · exact .inr h
theorem ordAt_mem : ∀ n p y, y ∈ ordAt n p ↔ y < n
  | 0, p, y => by
    constructor
    · intro h
      cases h
    · intro h
      omega
  | n + 1, p, y => by
    show y ∈ ins _ _ _ ↔ _
    rw [ins_mem, ordAt_mem n _ y]
    omega
theorem ins_perm (x i : Nat) (l : List Nat) : (ins x i l).Perm (x :: l) := by
  unfold ins
  rw [List.append_assoc]
  have h : (l.take i ++ ([x] ++ l.drop i)).Perm (x :: (l.take i ++ l.drop i)) := List.perm_middle
  rw [List.take_append_drop] at h
  exact h
theorem ordAt_perm : ∀ n p, (ordAt n p).Perm (List.range n)
  | 0, _ => List.Perm.refl _
  | n + 1, p => by
    have h1 : (ordAt (n + 1) p).Perm (n :: ordAt n (p / (n + 1))) := ins_perm _ _ _
    have h2 := h1.trans ((ordAt_perm n (p / (n + 1))).cons n)
    rw [List.range_succ]
    exact h2.trans (List.perm_append_singleton n (List.range n)).symm
theorem ordAt_nodup (n p : Nat) : (ordAt n p).Nodup := (ordAt_perm n p).nodup_iff.mpr List.nodup_range
/-! the step: two neighbours behind s change places -/
def Swap (A B : List Nat) (s : Nat) : Prop := ∃ X u v Y, A = X ++ u :: v :: Y ∧ B = X ++ v :: u :: Y ∧ X.length = s ∧ u ≠ v
theorem Swap.symm {A B : List Nat} {s : Nat} (h : Swap A B s) : Swap B A s := by
  obtain ⟨X, u, v, Y, h1, h2, h3, h4⟩ := h
  exact ⟨X, v, u, Y, h2, h1, h3, h4.symm⟩
theorem swap_front {A B : List Nat} {s : Nat} (n : Nat) (h : Swap A B s) : Swap (n :: A) (n :: B) (s + 1) := by
  obtain ⟨X, u, v, Y, h1, h2, h3, h4⟩ := h
  exact ⟨n :: X, u, v, Y, by rw [h1]; rfl, by rw [h2]; rfl, by rw [List.length_cons, h3], h4⟩
theorem swap_back {A B : List Nat} {s : Nat} (n : Nat) (h : Swap A B s) : Swap (A ++ [n]) (B ++ [n]) s := by
  obtain ⟨X, u, v, Y, h1, h2, h3, h4⟩ := h
  exact ⟨X, u, v, Y ++ [n], by rw [h1, List.append_assoc]; rfl, by rw [h2, List.append_assoc]; rfl, h3, h4⟩
theorem ins_zero (x : Nat) (l : List Nat) : ins x 0 l = x :: l := rfl
theorem ins_end {x n : Nat} {l : List Nat} (h : l.length = n) : ins x n l = l ++ [x] := by
  unfold ins
  rw [List.take_of_length_le (by omega), List.drop_of_length_le (by omega), List.append_nil]
theorem ins_swap {x i : Nat} {l : List Nat} (h : i < l.length) (hx : x ∉ l) : Swap (ins x i l) (ins x (i + 1) l) i := by
  have d := List.drop_eq_getElem_cons h
  have t : l.take (i + 1) = l.take i ++ [l[i]] := by
    rw [List.take_add_one, List.getElem?_eq_getElem h]
    rfl
  refine ⟨l.take i, x, l[i], l.drop (i + 1), ?_, ?_, by rw [List.length_take]; omega, fun e => hx (by rw [e]; exact List.getElem_mem h)⟩
  · unfold ins
    rw [d, List.append_assoc]
    rfl
  · unfold ins
    rw [t, List.append_assoc, List.append_assoc]
    rfl
theorem fact_even : ∀ n, 2 ≤ n → fact n % 2 = 0
  | 0, h => absurd h (by decide)
  | 1, h => absurd h (by decide)
  | 2, _ => rfl
  | n + 3, _ => by
    have ih := fact_even (n + 2) (by omega)
    show fact (n + 2) * (n + 2 + 1) % 2 = 0
    rw [Nat.mul_mod, ih, Nat.zero_mul]
/-- the next place, round too, by elder and turn -/
theorem next_in {n p : Nat} (hp : p < fact (n + 1)) (ht : p % (n + 1) < n) : (p + 1) % fact (n + 1) / (n + 1) = p / (n + 1) ∧ (p + 1) % fact (n + 1) % (n + 1) = p % (n + 1) + 1 := by
  have hd := Nat.div_add_mod p (n + 1)
  have hf : fact (n + 1) = fact n * (n + 1) := rfl
  have hlt : p + 1 < fact (n + 1) := by
    have he : p / (n + 1) < fact n := Nat.div_lt_of_lt_mul (by rw [Nat.mul_comm, ← hf]; exact hp)
    have h2 : (n + 1) * (p / (n + 1) + 1) ≤ (n + 1) * fact n := Nat.mul_le_mul_left _ he
    rw [Nat.mul_add, Nat.mul_one, Nat.mul_comm (n + 1) (fact n), ← hf] at h2
    omega
  rw [Nat.mod_eq_of_lt hlt]
  have e : p + 1 = (p % (n + 1) + 1) + (n + 1) * (p / (n + 1)) := by omega
  constructor
  · rw [e, Nat.add_mul_div_left _ _ (show 0 < n + 1 by omega), Nat.div_eq_of_lt (show p % (n + 1) + 1 < n + 1 by omega), Nat.zero_add]
  · rw [e, Nat.add_mul_mod_self_left, Nat.mod_eq_of_lt (show p % (n + 1) + 1 < n + 1 by omega)]
theorem next_out {n p : Nat} (hp : p < fact (n + 1)) (ht : p % (n + 1) = n) : (p + 1) % fact (n + 1) / (n + 1) = (p / (n + 1) + 1) % fact n ∧ (p + 1) % fact (n + 1) % (n + 1) = 0 := by
  have hd := Nat.div_add_mod p (n + 1)
  have hf : fact (n + 1) = fact n * (n + 1) := rfl
  have e : p + 1 = (n + 1) * (p / (n + 1) + 1) := by
    rw [Nat.mul_add, Nat.mul_one]
    omega
  rw [e, hf, Nat.mul_comm (fact n) (n + 1), Nat.mul_mod_mul_left]
  exact ⟨Nat.mul_div_cancel_left _ (by omega), Nat.mul_mod_right _ _⟩
theorem ordAt_succ (n p : Nat) : ordAt (n + 1) p = ins n (slot n (p / (n + 1)) (p % (n + 1))) (ordAt n (p / (n + 1))) := rfl
theorem ord_turn : ∀ n p, 2 ≤ n → p < fact n → ∃ s, Swap (ordAt n p) (ordAt n ((p + 1) % fact n)) s
  | 0, _, h, _ => absurd h (by decide)
  | n + 1, p, h, hp => by
    have hm : p % (n + 1) < n + 1 := Nat.mod_lt _ (by omega)
    have hl := ordAt_len n (p / (n + 1))
    have hx : n ∉ ordAt n (p / (n + 1)) := fun m => by
      have := (ordAt_mem n _ n).mp m
      omega
    by_cases c : p % (n + 1) < n
    · obtain ⟨e1, e2⟩ := next_in hp c
      rw [ordAt_succ, ordAt_succ n ((p + 1) % fact (n + 1)), e1, e2]
      by_cases ev : p / (n + 1) % 2 = 0
      · have s1 : slot n (p / (n + 1)) (p % (n + 1)) = (n - (p % (n + 1) + 1)) + 1 := by
          unfold slot
          rw [if_pos ev]
          omega
        have s2 : slot n (p / (n + 1)) (p % (n + 1) + 1) = n - (p % (n + 1) + 1) := by
          unfold slot
          rw [if_pos ev]
        rw [s1, s2]
        exact ⟨_, (ins_swap (by rw [hl]; omega) hx).symm⟩
      · have s1 : slot n (p / (n + 1)) (p % (n + 1)) = p % (n + 1) := by
          unfold slot
          rw [if_neg ev]
        have s2 : slot n (p / (n + 1)) (p % (n + 1) + 1) = p % (n + 1) + 1 := by
          unfold slot
          rw [if_neg ev]
        rw [s1, s2]
        exact ⟨_, ins_swap (by rw [hl]; exact c) hx⟩
    · have ht : p % (n + 1) = n := by omega
      obtain ⟨e1, e2⟩ := next_out hp ht
      have he : p / (n + 1) < fact n := Nat.div_lt_of_lt_mul (by rw [Nat.mul_comm]; exact hp)
      rw [ordAt_succ, ordAt_succ n ((p + 1) % fact (n + 1)), e1, e2, ht]
      by_cases n2 : 2 ≤ n
      · obtain ⟨s, sw⟩ := ord_turn n (p / (n + 1)) n2 he
        have hl2 := ordAt_len n ((p / (n + 1) + 1) % fact n)
        have par : (p / (n + 1) + 1) % fact n % 2 = (p / (n + 1) + 1) % 2 := by
          have fe := fact_even n n2
          by_cases w : p / (n + 1) + 1 = fact n
          · rw [w, Nat.mod_self, fe]
          · rw [Nat.mod_eq_of_lt (show p / (n + 1) + 1 < fact n by omega)]
        by_cases ev : p / (n + 1) % 2 = 0
        · have s1 : slot n (p / (n + 1)) n = 0 := by
            unfold slot
            rw [if_pos ev, Nat.sub_self]
          have s2 : slot n ((p / (n + 1) + 1) % fact n) 0 = 0 := by
            unfold slot
            rw [if_neg (by rw [par]; omega)]
          rw [s1, s2, ins_zero, ins_zero]
          exact ⟨_, swap_front n sw⟩
        · have s1 : slot n (p / (n + 1)) n = n := by
            unfold slot
            rw [if_neg ev]
          have s2 : slot n ((p / (n + 1) + 1) % fact n) 0 = n := by
            unfold slot
            rw [if_pos (by rw [par]; omega), Nat.sub_zero]
          rw [s1, s2, ins_end hl, ins_end hl2]
          exact ⟨_, swap_back n sw⟩
      · have n1 : n = 1 := by omega
        subst n1
        have he0 : p / (1 + 1) = 0 := by
          have : p < 2 := hp
          omega
        rw [he0]
        exact ⟨0, [], 1, 0, [], rfl, rfl, rfl, by decide⟩
/-! the place of an order -/
/-- how many below m stand ahead of it -/
def ahead (o : List Nat) (m : Nat) : Nat := ((o.take (o.idxOf m)).filter (fun x => decide (x < m))).length
def pord (o : List Nat) : Nat → Nat
  | 0 => 0
  | m + 1 => pord o m * (m + 1) + slot m (pord o m) (ahead o m)
theorem slot_slot {n e t : Nat} (h : t ≤ n) : slot n e (slot n e t) = t := by
  unfold slot
  split <;> omega
theorem split_at {o : List Nat} {m : Nat} (h : m ∈ o) (nd : o.Nodup) : ∃ A B, o = A ++ m :: B ∧ o.idxOf m = A.length ∧ m ∉ A ∧ m ∉ B := by
  obtain ⟨A, B, e⟩ := List.append_of_mem h
  subst e
  have h1 := List.nodup_append.mp nd
  have hA : m ∉ A := fun z => h1.2.2 m z m (by simp) rfl
  have hB : m ∉ B := (List.nodup_cons.mp h1.2.1).1
  refine ⟨A, B, rfl, ?_, hA, hB⟩
  rw [List.idxOf_append, if_neg hA, List.idxOf_cons_self, Nat.zero_add]
/-- those below m + 1: those below m with m put in -/
theorem low_succ {o : List Nat} {m : Nat} (h : m ∈ o) (nd : o.Nodup) : o.filter (fun x => decide (x < m + 1)) = ins m (ahead o m) (o.filter (fun x => decide (x < m))) := by
  obtain ⟨A, B, e, hi, hA, hB⟩ := split_at h nd
  have low : ∀ L : List Nat, m ∉ L → L.filter (fun x => decide (x < m + 1)) = L.filter (fun x => decide (x < m)) := fun L hL => by
    apply List.filter_congr
    intro x hx
    have : x ≠ m := fun z => hL (by rw [← z]; exact hx)
    rw [decide_eq_decide]
    omega
  have ha : ahead o m = (A.filter (fun x => decide (x < m))).length := by
    unfold ahead
    rw [hi, e, List.take_left']
    rfl
  rw [ha, e, List.filter_append, List.filter_append, List.filter_cons, List.filter_cons, if_pos (by simp), if_neg (by simp), low A hA, low B hB]
  unfold ins
  rw [List.take_left' rfl, List.drop_left' rfl, List.append_assoc]
  rfl
theorem low_len {o : List Nat} {n m : Nat} (h : o.Perm (List.range n)) (hm : m ≤ n) : (o.filter (fun x => decide (x < m))).length = m := by
  have h1 := (h.filter (fun x => decide (x < m))).length_eq
  rw [h1]
  have : (List.range n).filter (fun x => decide (x < m)) = List.range m := by
    obtain ⟨d, rfl⟩ : ∃ d, n = m + d := ⟨n - m, by omega⟩
    rw [List.range_add, List.filter_append, List.filter_eq_self.mpr (fun x hx => by rw [List.mem_range] at hx; exact decide_eq_true hx)]
    have z : ((List.range d).map (m + ·)).filter (fun x => decide (x < m)) = [] := by
      rw [List.filter_eq_nil_iff]
      intro x hx
      rw [List.mem_map] at hx
      obtain ⟨y, _, rfl⟩ := hx
      simp
    rw [z, List.append_nil]
  rw [this, List.length_range]
theorem ahead_le {o : List Nat} {n m : Nat} (h : o.Perm (List.range n)) (hm : m < n) : ahead o m ≤ m := by
  have h1 := low_len h (Nat.le_of_lt hm)
  have h2 : ((o.take (o.idxOf m)).filter (fun x => decide (x < m))).length ≤ (o.filter (fun x => decide (x < m))).length := ((List.take_sublist _ _).filter _).length_le
  unfold ahead
  omega
theorem pord_lt {o : List Nat} {n : Nat} (h : o.Perm (List.range n)) : ∀ m, m ≤ n → pord o m < fact m
  | 0, _ => by
    show 0 < 1
    decide
  | m + 1, hm => by
    have ih := pord_lt h m (by omega)
    have sl := slot_le (n := m) (e := pord o m) (ahead_le h (show m < n by omega))
    have h2 : (pord o m + 1) * (m + 1) ≤ fact m * (m + 1) := Nat.mul_le_mul_right _ ih
    rw [Nat.add_mul, Nat.one_mul] at h2
    show pord o m * (m + 1) + slot m (pord o m) (ahead o m) < fact m * (m + 1)
    omega
theorem pord_div {o : List Nat} {n m : Nat} (h : o.Perm (List.range n)) (hm : m < n) : pord o (m + 1) / (m + 1) = pord o m ∧ pord o (m + 1) % (m + 1) = slot m (pord o m) (ahead o m) := by
  have sl := slot_le (n := m) (e := pord o m) (ahead_le h hm)
  have e : pord o (m + 1) = slot m (pord o m) (ahead o m) + (m + 1) * pord o m := by
    show pord o m * (m + 1) + slot m (pord o m) (ahead o m) = _
    rw [Nat.mul_comm, Nat.add_comm]
  constructor
  · rw [e, Nat.add_mul_div_left _ _ (show 0 < m + 1 by omega), Nat.div_eq_of_lt (by omega), Nat.zero_add]
  · rw [e, Nat.add_mul_mod_self_left, Nat.mod_eq_of_lt (by omega)]
theorem ord_pord {o : List Nat} {n : Nat} (h : o.Perm (List.range n)) : ∀ m, m ≤ n → ordAt m (pord o m) = o.filter (fun x => decide (x < m))
  | 0, _ => by
    have : o.filter (fun x => decide (x < 0)) = [] := by
      rw [List.filter_eq_nil_iff]
      intro x _
      simp
    rw [this]
    rfl
  | m + 1, hm => by
    have ih := ord_pord h m (by omega)
    obtain ⟨e1, e2⟩ := pord_div h (show m < n by omega)
    have nd : o.Nodup := h.nodup_iff.mpr List.nodup_range
    have hmem : m ∈ o := h.mem_iff.mpr (List.mem_range.mpr (by omega))
    rw [ordAt_succ, e1, e2, slot_slot (ahead_le h (by omega)), ih, low_succ hmem nd]
theorem ord_back {o : List Nat} {n : Nat} (h : o.Perm (List.range n)) : ordAt n (pord o n) = o := by
  rw [ord_pord h n (Nat.le_refl _), List.filter_eq_self.mpr]
  intro x hx
  exact decide_eq_true (List.mem_range.mp (h.mem_iff.mp hx))
theorem ins_low {n i : Nat} {l : List Nat} (h : ∀ x ∈ l, x < n) : (ins n i l).filter (fun x => decide (x < n)) = l := by
  unfold ins
  have h1 : (l.take i).filter (fun x => decide (x < n)) = l.take i := List.filter_eq_self.mpr fun x hx => decide_eq_true (h x (List.mem_of_mem_take hx))
  have h2 : (l.drop i).filter (fun x => decide (x < n)) = l.drop i := List.filter_eq_self.mpr fun x hx => decide_eq_true (h x (List.mem_of_mem_drop hx))
  rw [List.filter_append, List.filter_append, h1, h2, List.filter_cons, if_neg (by simp)]
  show l.take i ++ [] ++ l.drop i = l
  rw [List.append_nil, List.take_append_drop]
theorem ins_idx {n i : Nat} {l : List Nat} (h : ∀ x ∈ l, x < n) (hi : i ≤ l.length) : (ins n i l).idxOf n = i := by
  have hA : n ∉ l.take i := fun m => by
    have := h n (List.mem_of_mem_take m)
    omega
  unfold ins
  rw [List.append_assoc, List.idxOf_append, if_neg hA]
  show List.idxOf n (n :: (l.drop i)) + (l.take i).length = i
  rw [List.idxOf_cons_self, List.length_take]
  omega
/-- places of the same orders are the same -/
theorem ordAt_inj : ∀ n p q, p < fact n → q < fact n → ordAt n p = ordAt n q → p = q
  | 0, p, q, hp, hq, _ => by
    have : p < 1 := hp
    have : q < 1 := hq
    omega
  | n + 1, p, q, hp, hq, e => by
    have mem := fun r x (hx : x ∈ ordAt n (r / (n + 1))) => (ordAt_mem n _ x).mp hx
    have ml : ∀ r, r % (n + 1) ≤ n := fun r => by
      have := Nat.mod_lt r (show n + 1 > 0 by omega)
      omega
    have sl := fun r => slot_le (n := n) (e := r / (n + 1)) (ml r)
    rw [ordAt_succ, ordAt_succ n q] at e
    have e1 : ordAt n (p / (n + 1)) = ordAt n (q / (n + 1)) := by
      have := congrArg (List.filter (fun x => decide (x < n))) e
      rw [ins_low (mem p), ins_low (mem q)] at this
      exact this
    have e2 : slot n (p / (n + 1)) (p % (n + 1)) = slot n (q / (n + 1)) (q % (n + 1)) := by
      have := congrArg (List.idxOf n) e
      rw [ins_idx (mem p) (by rw [ordAt_len]; exact sl p), ins_idx (mem q) (by rw [ordAt_len]; exact sl q)] at this
      exact this
    have e3 : p / (n + 1) = q / (n + 1) := ordAt_inj n _ _ (Nat.div_lt_of_lt_mul (by rw [Nat.mul_comm]; exact hp)) (Nat.div_lt_of_lt_mul (by rw [Nat.mul_comm]; exact hq)) e1
    have e4 : p % (n + 1) = q % (n + 1) := by
      have := congrArg (slot n (p / (n + 1))) e2
      rw [slot_slot (ml p), e3, slot_slot (ml q)] at this
      exact this
    rw [← Nat.div_add_mod p (n + 1), ← Nat.div_add_mod q (n + 1), e3, e4]
theorem pord_ordAt {n p : Nat} (hp : p < fact n) : pord (ordAt n p) n = p :=
  ordAt_inj n _ _ (pord_lt (ordAt_perm n p) n (Nat.le_refl _)) hp (ord_back (ordAt_perm n p))
/-- the ways, from the last thing to the first -/
def ways : Nat → Nat → List (Nat × Nat × Nat)
  | 0, _ => []
  | n + 1, p => (n, p % (n + 1), p / (n + 1)) :: ways n (p / (n + 1))
def ordW : List (Nat × Nat × Nat) → List Nat
  | [] => []
  | (x, t, e) :: w => ins x (slot x e t) (ordW w)
theorem ways_len : ∀ n p, (ways n p).length = n
  | 0, _ => rfl
  | n + 1, p => by
    show (ways n (p / (n + 1))).length + 1 = n + 1
    rw [ways_len n]
theorem ordW_ways : ∀ n p, ordW (ways n p) = ordAt n p
  | 0, _ => rfl
  | n + 1, p => by
    show ins n (slot n (p / (n + 1)) (p % (n + 1))) (ordW (ways n (p / (n + 1)))) = _
    rw [ordW_ways n]
    rfl
/-- the last m ways are those of m things on the elder place -/
def elder : Nat → Nat → Nat → Nat
  | 0, _, p => p
  | n + 1, i, p => if i = 0 then p else elder n (i - 1) (p / (n + 1))
theorem ways_drop : ∀ n i p, i ≤ n → (ways n p).drop i = ways (n - i) (elder n i p)
  | 0, i, p, h => by
    have : i = 0 := by omega
    subst this
    rfl
  | n + 1, 0, p, _ => rfl
  | n + 1, i + 1, p, h => by
    show (ways n (p / (n + 1))).drop i = _
    rw [ways_drop n i _ (by omega), show n + 1 - (i + 1) = n - i by omega]
    show _ = ways (n - i) (if i + 1 = 0 then p else elder n (i + 1 - 1) (p / (n + 1)))
    rw [if_neg (by omega), Nat.add_sub_cancel]
theorem elder_zero (n p : Nat) : elder n 0 p = p := by cases n <;> rfl
theorem ways_get {n i p : Nat} (h : i < n) : (ways n p)[i]? = some (n - 1 - i, elder n i p % (n - i), elder n i p / (n - i)) ∧ elder n (i + 1) p = elder n i p / (n - i) := by
  have d := ways_drop n i p (by omega)
  obtain ⟨m, hm⟩ : ∃ m, n - i = m + 1 := ⟨n - i - 1, by omega⟩
  have e1 : (ways n p)[i]? = some (m, elder n i p % (m + 1), elder n i p / (m + 1)) := by
    have := congrArg (fun l => l[0]?) d
    simp only [List.getElem?_drop, Nat.add_zero] at this
    rw [this, hm]
    rfl
  refine ⟨by rw [e1, show n - 1 - i = m by omega, hm], ?_⟩
  exact elder_step n i p h
where
  elder_step : ∀ n i p, i < n → elder n (i + 1) p = elder n i p / (n - i)
    | 0, _, _, h => absurd h (by omega)
    | n + 1, 0, p, _ => by
      show elder n 0 (p / (n + 1)) = p / (n + 1)
      rw [elder_zero]
    | n + 1, i + 1, p, h => by
      show elder n (i + 1) (p / (n + 1)) = elder n i (p / (n + 1)) / (n + 1 - (i + 1))
      rw [elder_step n i _ (by omega), show n + 1 - (i + 1) = n - i by omega]
theorem elder_le : ∀ n i p, elder n i p ≤ p
  | 0, _, p => Nat.le_refl _
  | n + 1, i, p => by
    show (if i = 0 then p else elder n (i - 1) (p / (n + 1))) ≤ p
    split
    · exact Nat.le_refl _
    · exact Nat.le_trans (elder_le n _ _) (Nat.div_le_self _ _)
end One
namespace One
open PySem L2
/-! ### the text by places -/
def top (i : Nat) : Stmt := PySem.Challenge.pw_onestep_k09_orders_listed.main.body.getD i (.Pass ⟨0, 0, 0, 0⟩)
abbrev s_orders : Stmt := top 6
abbrev N_orders : List Str := ["things", "total", "k"]
theorem sc_orders : FnScope N_orders ["things"] (defScope s_orders) := ⟨rfl, rfl, rfl, by decide +kernel, rfl, by decide +kernel, by decide +kernel⟩
abbrev s_asked : Stmt := top 7
abbrev N_asked : List Str := ["things", "place", "total"]
theorem sc_asked : FnScope N_asked ["things", "place"] (defScope s_asked) := ⟨rfl, rfl, rfl, by decide +kernel, rfl, by decide +kernel, by decide +kernel⟩
abbrev s_order_at : Stmt := top 8
abbrev N_order_at : List Str := ["things", "place", "ways", "many", "found", "thing", "turn", "elder"]
theorem sc_order_at : FnScope N_order_at ["things", "place"] (defScope s_order_at) := ⟨rfl, rfl, rfl, by decide +kernel, rfl, by decide +kernel, by decide +kernel⟩
abbrev s__law_cell_at : Stmt := top 10
abbrev N__law_cell_at : List Str := ["script", "k"]
theorem sc__law_cell_at : FnScope N__law_cell_at ["script", "k"] (defScope s__law_cell_at) := ⟨rfl, rfl, rfl, by decide +kernel, rfl, by decide +kernel, by decide +kernel⟩
abbrev s__law_whole : Stmt := top 11
abbrev N__law_whole : List Str := ["found"]
theorem sc__law_whole : FnScope N__law_whole ["found"] (defScope s__law_whole) := ⟨rfl, rfl, rfl, by decide +kernel, rfl, by decide +kernel, by decide +kernel⟩
abbrev s__law_is_list : Stmt := top 12
abbrev N__law_is_list : List Str := ["found", "due", "k"]
theorem sc__law_is_list : FnScope N__law_is_list ["found", "due"] (defScope s__law_is_list) := ⟨rfl, rfl, rfl, by decide +kernel, rfl, by decide +kernel, by decide +kernel⟩
abbrev s__law_put_in : Stmt := top 13
abbrev N__law_put_in : List Str := ["order", "thing", "odd", "found", "at"]
theorem sc__law_put_in : FnScope N__law_put_in ["order", "thing", "odd"] (defScope s__law_put_in) := ⟨rfl, rfl, rfl, by decide +kernel, rfl, by decide +kernel, by decide +kernel⟩
abbrev s__law_all_orders : Stmt := top 14
abbrev N__law_all_orders : List Str := ["things", "found", "thing", "longer", "k"]
theorem sc__law_all_orders : FnScope N__law_all_orders ["things"] (defScope s__law_all_orders) := ⟨rfl, rfl, rfl, by decide +kernel, rfl, by decide +kernel, by decide +kernel⟩
abbrev s_law : Stmt := top 15
abbrev N_law : List Str := ["script", "things", "due", "total", "place", "found"]
theorem sc_law : FnScope N_law ["script"] (defScope s_law) := ⟨rfl, rfl, rfl, by decide +kernel, rfl, by decide +kernel, by decide +kernel⟩
/-- what the top has laid, as far as the walk asks -/
structure Txt (K : PySem.W.Frag) (mg : Str → Option Value) where
  f_orders : Addr
  fd_orders : FuncData
  F_orders : Fun K "orders" "orders" s_orders f_orders fd_orders
  b_orders : Binds K fd_orders ["things"] []
  f_asked : Addr
  fd_asked : FuncData
  F_asked : Fun K "asked" "asked" s_asked f_asked fd_asked
  b_asked : Binds K fd_asked ["things", "place"] []
  f_order_at : Addr
  fd_order_at : FuncData
  F_order_at : Fun K "order_at" "order_at" s_order_at f_order_at fd_order_at
  b_order_at : Binds K fd_order_at ["things", "place"] []
  f__law_cell_at : Addr
  fd__law_cell_at : FuncData
  F__law_cell_at : Fun K "_law_cell_at" "_law_cell_at" s__law_cell_at f__law_cell_at fd__law_cell_at
  b__law_cell_at : Binds K fd__law_cell_at ["script", "k"] []
  f__law_whole : Addr
  fd__law_whole : FuncData
  F__law_whole : Fun K "_law_whole" "_law_whole" s__law_whole f__law_whole fd__law_whole
  b__law_whole : Binds K fd__law_whole ["found"] []
  f__law_is_list : Addr
  fd__law_is_list : FuncData
  F__law_is_list : Fun K "_law_is_list" "_law_is_list" s__law_is_list f__law_is_list fd__law_is_list
  b__law_is_list : Binds K fd__law_is_list ["found", "due"] []
  f__law_put_in : Addr
  fd__law_put_in : FuncData
  F__law_put_in : Fun K "_law_put_in" "_law_put_in" s__law_put_in f__law_put_in fd__law_put_in
  b__law_put_in : Binds K fd__law_put_in ["order", "thing", "odd"] []
  f__law_all_orders : Addr
  fd__law_all_orders : FuncData
  F__law_all_orders : Fun K "_law_all_orders" "_law_all_orders" s__law_all_orders f__law_all_orders fd__law_all_orders
  b__law_all_orders : Binds K fd__law_all_orders ["things"] []
  f_law : Addr
  fd_law : FuncData
  F_law : Fun K "law" "law" s_law f_law fd_law
  b_law : Binds K fd_law ["script"] []
  g_orders : mg "orders" = some (.ref f_orders)
  g_asked : mg "asked" = some (.ref f_asked)
  g_order_at : mg "order_at" = some (.ref f_order_at)
  g__law_cell_at : mg "_law_cell_at" = some (.ref f__law_cell_at)
  g__law_whole : mg "_law_whole" = some (.ref f__law_whole)
  g__law_is_list : mg "_law_is_list" = some (.ref f__law_is_list)
  g__law_put_in : mg "_law_put_in" = some (.ref f__law_put_in)
  g__law_all_orders : mg "_law_all_orders" = some (.ref f__law_all_orders)
  g_law : mg "law" = some (.ref f_law)
  t_MOST : Tok
  g_MOST : mg "MOST" = some (.int 20 t_MOST)
  m_bool : mg "bool" = none
  m_int : mg "int" = none
  m_isinstance : mg "isinstance" = none
  m_len : mg "len" = none
  m_list : mg "list" = none
  m_range : mg "range" = none
  m_reversed : mg "reversed" = none
end One
local macro_rules | `(tactic| walk_at "rd1") => `(tactic| first
  | (with_reducible refine One.rd_var ?_; refine ⟨_, rfl, ?_⟩)
  | with_reducible refine One.rd_c ?_
  | with_reducible refine One.rd_seq ?_
  | with_reducible refine One.rd_asg ?_
  | with_reducible refine One.rd_name ?_
  | with_reducible refine One.rd_op ?_
  | with_reducible refine One.rd_i0 ?_
  | with_reducible refine One.rd_mul1 ⟨(by omega), (by omega)⟩ ?_
  | with_reducible refine One.rd_mul2 ⟨(by omega), (by omega)⟩ ?_
  | with_reducible refine One.rd_div ⟨(by omega), (by omega)⟩ ?_
  | with_reducible refine One.rd_mod (by omega) ?_
  | with_reducible refine One.rd_i ?_ ?_
  | with_reducible refine One.rd_eq ?_
  | with_reducible refine One.rd_ne ?_
  | with_reducible refine One.rd_eqB ?_
  | with_reducible refine One.rd_neB ?_
  | with_reducible refine One.rd_test ?_
  | with_reducible refine One.rd_tB ?_
  | with_reducible refine One.rd_bl ?_
  | with_reducible refine One.rd_and ?_
  | with_reducible refine One.rd_or ?_
  | with_reducible refine One.rd_not ?_
  | with_reducible refine One.rd_andV ?_
  | with_reducible refine One.rd_orV ?_
  | with_reducible refine One.rd_notV ?_
  | with_reducible refine One.rd_ifx ?_
  | with_reducible refine One.rd_if ?_
  | with_reducible refine One.rd_ret ?_
  | with_reducible refine One.rd_drop ?_
  | with_reducible refine One.rd_next ?_
  | with_reducible refine One.rd_par ?_
  | with_reducible refine One.rd_two ?_
  | with_reducible refine One.rd_un ?_
  | with_reducible refine One.rd_neg ?_
  | with_reducible refine One.rd_nil ?_
  | with_reducible refine One.rd_cons ?_
  | with_reducible refine One.rd_cb ?_
  | with_reducible refine One.rd_call ?_
  | with_reducible refine One.rd_tup ?_
  | with_reducible refine One.rd_lst ?_
  | with_reducible refine One.rd_bm ?_
  | with_reducible refine One.rd_sl ?_
  | with_reducible refine One.rd_nopart ?_
  | with_reducible refine One.rd_part ?_
  | with_reducible refine One.rd_ni ?_
  | with_reducible refine One.rd_for1 ?_
  | with_reducible refine One.rd_forL ?_
  | with_reducible refine One.rd_lcL ?_
  | with_reducible refine One.rd_lcV ?_
  | with_reducible refine One.rd_lcR ?_
  | with_reducible refine One.tt_yes ?_
  | with_reducible refine One.rd_forV ?_
  | with_reducible refine One.rd_forRR ?_
  | with_reducible refine One.rd_rg2 ?_
  | with_reducible refine One.rd_rg1 ?_
  | with_reducible refine One.rd_ij ?_
  | with_reducible refine One.rd_lstRg ?_
  | with_reducible refine One.rd_din ?_
  | with_reducible refine One.rd_dput ?_
  | with_reducible refine One.rd_newT ?_
  | with_reducible refine One.whil_in ?_
  | with_reducible refine One.if_t ?_
  | with_reducible refine One.if_f ?_
  | with_reducible refine One.if_ft ?_
  | with_reducible refine One.if_tf ?_
  | with_reducible refine One.if_df (by omega) ?_
  | with_reducible refine One.if_dt (by omega) ?_
  | with_reducible refine One.if_nf (by omega) ?_
  | with_reducible refine One.if_nt (by omega) ?_)
local macro_rules | `(tactic| walk_at "rd") => `(tactic| repeat (walk_at "rd1"))
namespace One
open PySem L2
section
variable {P : Program} {w : World} {K : PySem.W.Frag} {mg : Str → Option Value} {base : Heap}

theorem fact20 : fact 20 = 2432902008176640000 := by decide +kernel
def sp_orders : Sp := fun vs H Q _ => ∃ n : Nat, vs = [.int (n : Int)] ∧ n ≤ 20 ∧ Q (.int ((fact n : Nat) : Int)) H
theorem fact_turn (k : Nat) : ((fact k : Nat) : Int) * ((k : Int) + 1) = ((fact (k + 1) : Nat) : Int) := by
  show _ = ((fact k * (k + 1) : Nat) : Int)
  rw [Int.natCast_mul]
  rfl
theorem ok_orders (T : Txt K mg) : FnOk P w K mg base CX0 1 T.f_orders T.fd_orders ["things"] (sp_orders) := by
  refine T.F_orders.ok sc_orders (fun vs H Q E h => ?_) (fun cdv A outer s H vs Q E hr h => ?_)
  · obtain ⟨_, rfl, _⟩ := h
    rfl
  · refine ⟨_, (pss_cons (ps_if (PW.pt (pw_or (pt_cmpR op_lt (pv 0) pe_int (nomark _)) (pw_or1 (pt_cmpR op_gt (pv 0) (pe_glob (v := .int 20) rfl T.g_MOST ⟨_, rfl⟩) (nomark _))))) (pss_one ps_never) pss_nil)
      (pss_cons (ps_set (i := 1) sc_orders.nd rfl (Or.inl rfl) pe_int)
      (pss_cons (ps_for PassesOwn.never rfl (pi_range1 rfl T.m_range (pa_cons (pv 0) pa_nil)) (pg_name (i := 2) sc_orders.nd rfl (Or.inl rfl)) (pss_one (ps_set (i := 1) sc_orders.nd rfl (Or.inl rfl) (pe_op op_mul (pv 1) (pe_op op_add (pv 2) pe_int)))))
      (pss_one (ps_ret (pv 1)))))), ?_⟩
    obtain ⟨n, rfl, hn, q⟩ := h
    walk_at "rd"
    refine for1 (n := n) (by omega) (fun k σ' H' => ∃ y, σ' = [some (.int (n : Int)), some (.int ((fact k : Nat) : Int)), y] ∧ H' = H) ⟨_, rfl, rfl⟩ ?_ ?_
    · rintro k σ' H' hk ⟨y, rfl, rfl⟩
      walk_at "rd"
      rw [fact_turn]
      exact ⟨_, rfl, rfl⟩
    · rintro σ' H' ⟨y, rfl, rfl⟩
      walk_at "rd"
      exact q

def sp_asked_orders : Sp := fun vs H Q _ => ∃ n p : Nat, vs = [.int (n : Int), .int (p : Int)] ∧ n ≤ 20 ∧ p < fact n ∧ Q .non H
theorem ok_asked (T : Txt K mg) : FnOk P w K mg base CX0 2 T.f_asked T.fd_asked ["things", "place"] (sp_asked_orders) := by
  have G_orders := ok_orders (P := P) (w := w) (base := base) T
  refine T.F_asked.ok sc_asked (fun vs H Q E h => ?_) (fun cdv A outer s H vs Q E hr h => ?_)
  · obtain ⟨_, _, rfl, _⟩ := h
    rfl
  · refine ⟨_, (pss_cons (ps_set (i := 2) sc_asked.nd rfl (Or.inl rfl) (pe_call G_orders (hr.mono (by decide)) (by rfl) T.g_orders T.F_orders.kp T.b_orders .nil pass0 (pa_cons (pv 0) pa_nil)))
      (pss_one (ps_if (PW.pt (pw_or (pt_cmpR op_lt (pv 1) pe_int (nomark _)) (pw_or1 (pt_cmpR op_ge (pv 1) (pv 2) (nomark _))))) (pss_one ps_never) pss_nil))), ?_⟩
    obtain ⟨n, p, rfl, hn, hp, q⟩ := h
    walk_at "rd"
    refine ⟨n, rfl, hn, ?_⟩
    walk_at "rd"
    exact q

def sp_order_at : Sp := fun vs H Q _ => ∃ n p : Nat, vs = [.int (n : Int), .int (p : Int)] ∧ n ≤ 20 ∧ p < fact n ∧
  ∀ H' a, Same H H' → H a = none → H' a = some (.lst ((zs (ordAt n p)).map V.int)) → Q (.ref a) H'
def wV (w : Nat × Nat × Nat) : List V := [.int (w.1 : Int), .int (w.2.1 : Int), .int (w.2.2 : Int)]
theorem zs_ins (x i : Nat) (l : List Nat) : (zs (ins x i l)).map V.int = ((zs l).map V.int).take i ++ [V.int (x : Int)] ++ ((zs l).map V.int).drop i := by
  unfold ins
  rw [zs_append, zs_snoc, zs_take, zs_drop]
theorem ok_order_at (T : Txt K mg) : FnOk P w K mg base CX0 3 T.f_order_at T.fd_order_at ["things", "place"] (sp_order_at) := by
  have G_asked := ok_asked (P := P) (w := w) (base := base) T
  refine T.F_order_at.ok sc_order_at (fun vs H Q E h => ?_) (fun cdv A outer s H vs Q E hr h => ?_)
  · obtain ⟨_, _, rfl, _⟩ := h
    rfl
  · refine ⟨_, (pss_cons (ps_expr (pe_call G_asked (hr.mono (by decide)) (by rfl) T.g_asked T.F_asked.kp T.b_asked .nil pass0 (pa_cons (pv 0) (pa_cons (pv 1) pa_nil))))
      (pss_cons (ps_set (i := 2) sc_order_at.nd rfl (Or.inl rfl) (pe_lst pa_nil))
      (pss_cons (ps_for PassesOwn.never rfl (pi_revR (by rfl) T.m_reversed (prg_2 (by rfl) T.m_range pe_int (pe_op op_add (pv 0) pe_int))) (pg_name (i := 3) sc_order_at.nd rfl (Or.inl rfl)) (pss_cons (ps_expr (pe_bm PySem.F.plainAttrs_list PySem.F.slot_list_append PySem.F.type_list_append mt_append (pv 2) (pa_cons (pe_tup (pa_cons (pe_op op_sub (pv 3) pe_int) (pa_cons (pe_op op_mod (pv 1) (pv 3)) (pa_cons (pe_op op_fdiv (pv 1) (pv 3)) pa_nil)))) pa_nil)))
      (pss_one (ps_set (i := 1) sc_order_at.nd rfl (Or.inl rfl) (pe_op op_fdiv (pv 1) (pv 3))))))
      (pss_cons (ps_set (i := 4) sc_order_at.nd rfl (Or.inl rfl) (pe_lst pa_nil))
      (pss_cons (ps_for PassesOwn.never rfl (pi_reversed (by rfl) T.m_reversed (pa_cons (pv 2) pa_nil)) (pg_tup rfl (pgs_cons (pg_name (i := 5) sc_order_at.nd rfl (Or.inl rfl)) (pgs_cons (pg_name (i := 6) sc_order_at.nd rfl (Or.inl rfl)) (pgs_cons (pg_name (i := 7) sc_order_at.nd rfl (Or.inl rfl)) pgs_nil)))) (pss_one (ps_if (pt_cmpR op_eq (pe_op op_mod (pv 7) pe_int) pe_int (nomark _)) (pss_one (ps_expr (pe_bm PySem.F.plainAttrs_list PySem.F.slot_list_insert PySem.F.type_list_insert mt_insert (pv 4) (pa_cons (pe_op op_sub (pv 5) (pv 6)) (pa_cons (pv 5) pa_nil))))) (pss_one (ps_expr (pe_bm PySem.F.plainAttrs_list PySem.F.slot_list_insert PySem.F.type_list_insert mt_insert (pv 4) (pa_cons (pv 6) (pa_cons (pv 5) pa_nil))))))))
      (pss_one (ps_ret (pv 4)))))))), ?_⟩
    obtain ⟨n, p, rfl, hn, hp, q⟩ := h
    have wl := ways_len n p
    walk_at "rd"
    refine ⟨n, p, rfl, hn, hp, ?_⟩
    walk_at "rd"
    refine rd_newL (by decide) fun o no => ?_
    walk_at "rd"
    refine forRR (n := n) (by omega) (fun i σ' H' => ∃ (y : Option V), σ' = [some (.int (n : Int)), some (.int ((elder n i p : Nat) : Int)), some (.ref o), y, none, none, none, none] ∧ Same H H' ∧ TL H' o (((ways n p).take i).map wV)) ?_ ?_ ?_
    · rw [elder_zero]
      exact ⟨_, rfl, same_upd no, [], upd_same, rfl, fun j p w e => by simp at e⟩
    · rintro i σ' H' hi ⟨y, rfl, sm, hT⟩
      obtain ⟨e1, e2⟩ := ways_get (p := p) hi
      obtain ⟨xs, hx, hxl⟩ := hT.len
      rw [List.length_map, List.length_take, wl] at hxl
      walk_at "rd"
      refine ⟨tyL hx, ?_⟩
      walk_at "rd"
      refine rd_newL (by show 3 ≤ 100000; decide) fun t nt => ?_
      have hT2 := hT.same (same_upd (o := .tup (wV (n - 1 - i, elder n i p % (n - i), elder n i p / (n - i)))) nt)
      have hx2 := same_upd (o := .tup (wV (n - 1 - i, elder n i p % (n - i), elder n i p / (n - i)))) nt _ _ hx
      have sm2 := sm.trans (same_upd (o := .tup (wV (n - 1 - i, elder n i p % (n - i), elder n i p / (n - i)))) nt)
      have ew : wV (n - 1 - i, elder n i p % (n - i), elder n i p / (n - i)) = [V.int (((n - i : Nat) : Int) - 1), V.int (((elder n i p : Nat) : Int) % ((n - i : Nat) : Int)), V.int (((elder n i p : Nat) : Int) / ((n - i : Nat) : Int))] := by
        rw [show ((n - i : Nat) : Int) - 1 = ((n - 1 - i : Nat) : Int) by omega]
        rfl
      rw [← ew]
      walk_at "rd"
      refine rd_app hx2 (by omega) ?_
      walk_at "rd"
      rw [show ((elder n i p : Nat) : Int) / ((n - i : Nat) : Int) = ((elder n (i + 1) p : Nat) : Int) by rw [e2]; rfl]
      refine ⟨_, rfl, same_mut sm2 no, ?_⟩
      rw [List.take_add_one, e1, List.map_append]
      exact hT2.app hx2 upd_same
    · rintro σ' H1 ⟨y, rfl, sm, hT⟩
      rw [List.take_of_length_le (by omega)] at hT
      obtain ⟨xs, hx, hxl⟩ := hT.len
      rw [List.length_map, wl] at hxl
      walk_at "rd"
      refine rd_newL (by decide) fun f nf => ?_
      have hof : o ≠ f := ne_of_none hx nf
      walk_at "rd"
      refine forV (xs := xs) (fun i σ' H' => ∃ (z0 z1 z2 z3 z4 z5 : Option V), σ' = [z0, z1, some (.ref o), z2, some (.ref f), z3, z4, z5] ∧ Same H1 H' ∧ H' f = some (.lst ((zs (ordW ((ways n p).drop (n - i)))).map V.int))) ?_ ?_ ?_ ?_
      · rw [Nat.sub_zero, List.drop_of_length_le (by omega)]
        exact ⟨_, _, _, _, _, _, rfl, same_upd nf, upd_same⟩
      · rintro i σ' H' _ ⟨z0, z1, z2, z3, z4, z5, _, sm1, _⟩
        exact SqL.of (sm1 _ _ hx)
      · rintro i x σ' H' hi hxi ⟨z0, z1, z2, z3, z4, z5, rfl, sm1, hf⟩
        rw [hxl] at hi hxi
        have hj : n - 1 - i < (ways n p).length := by omega
        have ej := List.getElem?_eq_getElem hj
        generalize hw : (ways n p)[n - 1 - i] = w at ej
        obtain ⟨x0, t0, el0⟩ := w
        obtain ⟨e1, e2⟩ := ways_get (n := n) (i := n - 1 - i) (p := p) (by omega)
        rw [ej] at e1
        have hx0 : x0 = i := by
          have := congrArg (fun o => (o.getD (0, 0, 0)).1) e1
          have h2 : x0 = n - 1 - (n - 1 - i) := this
          omega
        have ht0 : t0 ≤ i := by
          have := congrArg (fun o => (o.getD (0, 0, 0)).2.1) e1
          have h2 : t0 = elder n (n - 1 - i) p % (n - (n - 1 - i)) := this
          have h3 := Nat.mod_lt (elder n (n - 1 - i) p) (show n - (n - 1 - i) > 0 by omega)
          omega
        subst hx0
        obtain ⟨qa, rfl, hq⟩ := (hT.same sm1).at (sm1 _ _ hx) hxi (show ((ways n p).map wV)[n - 1 - x0]? = some (wV (x0, t0, el0)) by rw [List.getElem?_map, ej]; rfl)
        have ed : (ways n p).drop (n - (x0 + 1)) = (x0, t0, el0) :: (ways n p).drop (n - x0) := by
          rw [show n - (x0 + 1) = n - 1 - x0 by omega, List.drop_eq_getElem_cons hj, hw, show n - 1 - x0 + 1 = n - x0 by omega]
        have lo : (ordW ((ways n p).drop (n - x0))).length = x0 := by
          rw [ways_drop n (n - x0) p (by omega), ordW_ways, ordAt_len]
          omega
        have hq3 : H' qa = some (.tup [.int (x0 : Int), .int (t0 : Int), .int (el0 : Int)]) := hq
        refine tup3 (SqT.of hq3) ?_
        walk_at "rd"
        refine if_d2 (fun c => ?_) (fun c => ?_)
        · walk_at "rd"
          refine ⟨tyL hf, ?_⟩
          walk_at "rd"
          refine rd_ins (i := x0 - t0) (by omega) hf (by rw [zsV_len, lo]; omega) (by omega) ?_
          refine ⟨_, _, _, _, _, _, rfl, same_mut sm1 nf, ?_⟩
          rw [upd_same, ed]
          show _ = some (HO.lst ((zs (ins x0 (slot x0 el0 t0) _)).map V.int))
          rw [show slot x0 el0 t0 = x0 - t0 by unfold slot; rw [if_pos (by omega)], zs_ins, Int.toNat_natCast]
        · walk_at "rd"
          refine ⟨tyL hf, ?_⟩
          walk_at "rd"
          refine rd_ins (i := t0) rfl hf (by rw [zsV_len, lo]; omega) (by omega) ?_
          refine ⟨_, _, _, _, _, _, rfl, same_mut sm1 nf, ?_⟩
          rw [upd_same, ed]
          show _ = some (HO.lst ((zs (ins x0 (slot x0 el0 t0) _)).map V.int))
          rw [show slot x0 el0 t0 = t0 by unfold slot; rw [if_neg (by omega)], zs_ins, Int.toNat_natCast]
      · rintro σ' H' ⟨z0, z1, z2, z3, z4, z5, rfl, sm1, hf⟩
        rw [hxl, Nat.sub_self, List.drop_zero, ordW_ways] at hf
        walk_at "rd"
        exact q H' f (sm.trans sm1) (sm.free nf) hf

/-- a cell of the script, nought behind its end -/
def sp_cell (K : PySem.W.Frag) : Sp := fun vs H Q _ => ∃ (a : Addr) (ns : List Int) (k : Nat), vs = [.ref a, .int (k : Int)] ∧ SqL K H a (ns.map V.int) ∧ Q (.int (ns.getD k 0)) H
theorem ok__law_cell_at (T : Txt K mg) : FnOk P w K mg base CX0 1 T.f__law_cell_at T.fd__law_cell_at ["script", "k"] (sp_cell K) := by
  refine T.F__law_cell_at.ok sc__law_cell_at (fun vs H Q E h => ?_) (fun cdv A outer s H vs Q E hr h => ?_)
  · obtain ⟨_, _, _, rfl, _⟩ := h
    rfl
  · refine ⟨_, (pss_cons (ps_if (pt_cmpR op_lt (pv 1) (pe_callB call_len_seq (by rfl) T.m_len PySem.boot_len (pa_cons (pv 0) pa_nil)) (nomark _)) (pss_one (ps_ret (pe_ix ix_list (pv 0) (pv 1) (fun _ _ => rfl)))) pss_nil)
      (pss_one (ps_ret pe_int))), ?_⟩
    obtain ⟨a, ns, k, rfl, hS, q⟩ := h
    walk_at "rd"
    refine rd_len hS ?_
    walk_at "rd"
    rw [List.length_map]
    refine if_d2 (fun hlt => ?_) (fun hge => ?_)
    · walk_at "rd"
      have e : ns[k]? = some (ns.getD k 0) := by
        rw [List.getD_eq_getElem?_getD, List.getElem?_eq_getElem (by omega)]
        rfl
      exact rd_at hS (ints_at e) q
    · walk_at "rd"
      rw [List.getD_eq_getElem?_getD, List.getElem?_eq_none (by omega)] at q
      exact q

def sp_whole : Sp := fun vs H Q _ => ∃ i : Int, vs = [.int i] ∧ Q (.bl true) H
theorem ok__law_whole (T : Txt K mg) : FnOk P w K mg base CX0 1 T.f__law_whole T.fd__law_whole ["found"] (sp_whole) := by
  refine T.F__law_whole.ok sc__law_whole (fun vs H Q E h => ?_) (fun cdv A outer s H vs Q E hr h => ?_)
  · obtain ⟨_, rfl, _⟩ := h
    rfl
  · refine ⟨_, (pss_one (ps_ret (pe_and (pe_callB (show CallR _ _ (rIsi K) from call_isi) (by rfl) T.m_isinstance (by decide +kernel) (pa_cons (pv 0) (pa_cons (pe_bltn (v := .ty "int") (by rfl) T.m_int (by decide +kernel) rfl) pa_nil))) (pe_one (pe_not (pe_callB (show CallR _ _ (rIsi K) from call_isi) (by rfl) T.m_isinstance (by decide +kernel) (pa_cons (pv 0) (pa_cons (pe_bltn (v := .ty "bool") (by rfl) T.m_bool (by decide +kernel) rfl) pa_nil)))))))), ?_⟩
    obtain ⟨i, rfl, q⟩ := h
    walk_at "rd"
    refine isi_ii ?_
    walk_at "rd"
    refine isi_ib ?_
    walk_at "rd"
    exact q

def sp_is_list (K : PySem.W.Frag) : Sp := fun vs H Q _ => ∃ (a b : Addr) (bs : List Int), vs = [.ref a, .ref b] ∧ H a = some (.lst (bs.map V.int)) ∧ SqL K H b (bs.map V.int) ∧ bs.length ≤ 1000 ∧ Q (.bl true) H
theorem ok__law_is_list (T : Txt K mg) : FnOk P w K mg base CX0 2 T.f__law_is_list T.fd__law_is_list ["found", "due"] (sp_is_list K) := by
  have G__law_whole := ok__law_whole (P := P) (w := w) (base := base) T
  refine T.F__law_is_list.ok sc__law_is_list (fun vs H Q E h => ?_) (fun cdv A outer s H vs Q E hr h => ?_)
  · obtain ⟨_, _, _, rfl, _⟩ := h
    rfl
  · refine ⟨_, (pss_cons (ps_if (PW.pt (pw_or (pt_not (pt_val (pe_callB (show CallR _ _ (rIsi K) from call_isi) (by rfl) T.m_isinstance (by decide +kernel) (pa_cons (pv 0) (pa_cons (pe_bltn (v := .ty "list") (by rfl) T.m_list (by decide +kernel) rfl) pa_nil))))) (pw_or1 (pt_cmpR op_ne (pe_callB call_len_seq (by rfl) T.m_len PySem.boot_len (pa_cons (pv 0) pa_nil)) (pe_callB call_len_seq (by rfl) T.m_len PySem.boot_len (pa_cons (pv 1) pa_nil)) (nomark _))))) (pss_one (ps_ret pe_bl)) pss_nil)
      (pss_cons (ps_for PassesOwn.never rfl (pi_range1 rfl T.m_range (pa_cons (pe_callB call_len_seq (by rfl) T.m_len PySem.boot_len (pa_cons (pv 1) pa_nil)) pa_nil)) (pg_name (i := 2) sc__law_is_list.nd rfl (Or.inl rfl)) (pss_one (ps_if (PW.pt (pw_or (pt_not (pt_val (pe_call G__law_whole (hr.mono (by decide)) (by rfl) T.g__law_whole T.F__law_whole.kp T.b__law_whole .nil pass0 (pa_cons (pe_ix ix_list (pv 0) (pv 2) (fun _ _ => rfl)) pa_nil)))) (pw_or1 (pt_cmpR op_ne (pe_ix ix_list (pv 0) (pv 2) (fun _ _ => rfl)) (pe_ix ix_list (pv 1) (pv 2) (fun _ _ => rfl)) (nomark _))))) (pss_one (ps_ret pe_bl)) pss_nil)))
      (pss_one (ps_ret pe_bl)))), ?_⟩
    obtain ⟨a, b, bs, rfl, ha, hb, hn, q⟩ := h
    have hA : SqL K H a (bs.map V.int) := SqL.of ha
    walk_at "rd"
    refine isi_ll ha ?_
    walk_at "rd"
    refine rd_len hA ?_
    walk_at "rd"
    refine rd_len hb ?_
    walk_at "rd"
    refine rd_len hb ?_
    rw [List.length_map]
    refine for1 (n := bs.length) (by omega) (fun k σ' H' => ∃ y, σ' = [some (.ref a), some (.ref b), y] ∧ H' = H) ⟨_, rfl, rfl⟩ ?_ ?_
    · rintro k σ' H' hk ⟨y, rfl, rfl⟩
      have e := ints_at (List.getElem?_eq_getElem hk)
      walk_at "rd"
      refine rd_at hA e ?_
      walk_at "rd"
      refine ⟨_, rfl, ?_⟩
      walk_at "rd"
      refine rd_at hA e ?_
      walk_at "rd"
      refine rd_at hb e ?_
      walk_at "rd"
      exact ⟨_, rfl, rfl⟩
    · rintro σ' H' ⟨y, rfl, rfl⟩
      walk_at "rd"
      exact q

def sp_put_in : Sp := fun vs H Q _ => ∃ (a : Addr) (o : List Nat) (x : Nat) (odd : Bool), vs = [.ref a, .int (x : Int), .bl odd] ∧ H a = some (.lst ((zs o).map V.int)) ∧ o.length ≤ 10 ∧
  ∀ H' b, Same H H' → LL H' b ((List.range (o.length + 1)).map fun i => (zs (ins x (if odd = true then i else o.length - i) o)).map V.int) → Q (.ref b) H'
theorem LL.rev {H : Hp} {a : Addr} {ws : List (List V)} {xs : List V} {b : Addr} (h : LL H a ws) (hx : H a = some (.lst xs)) (hb : H b = none) : LL (upd H b (.lst xs.reverse)) b ws.reverse := by
  obtain ⟨ps, h1, h2, h3⟩ := h
  rw [h1] at hx
  cases hx
  refine ⟨ps.reverse, by rw [upd_same, List.map_reverse], by rw [List.length_reverse, List.length_reverse, h2], fun j p w e e2 => ?_⟩
  have hj : j < ps.length := by
    have := (List.getElem?_eq_some_iff.mp e).1
    rw [List.length_reverse] at this
    exact this
  rw [List.getElem?_reverse hj] at e
  rw [List.getElem?_reverse (by omega), ← h2] at e2
  have hp := h3 _ p w e e2
  rw [upd_ne (ne_of_none hp hb)]
  exact hp
theorem range_rev {α : Type} (n : Nat) (f : Nat → α) : ((List.range (n + 1)).map f).reverse = (List.range (n + 1)).map fun i => f (n - i) := by
  apply List.ext_getElem?
  intro j
  by_cases h : j < n + 1
  · rw [List.getElem?_reverse (by rw [List.length_map, List.length_range]; exact h), List.length_map, List.length_range, List.getElem?_map, List.getElem?_range (by omega), List.getElem?_map, List.getElem?_range h, show n + 1 - 1 - j = n - j by omega]
    rfl
  · rw [List.getElem?_eq_none (by rw [List.length_reverse, List.length_map, List.length_range]; omega), List.getElem?_eq_none (by rw [List.length_map, List.length_range]; omega)]
theorem ok__law_put_in (T : Txt K mg) : FnOk P w K mg base CX0 1 T.f__law_put_in T.fd__law_put_in ["order", "thing", "odd"] (sp_put_in) := by
  refine T.F__law_put_in.ok sc__law_put_in (fun vs H Q E h => ?_) (fun cdv A outer s H vs Q E hr h => ?_)
  · obtain ⟨_, _, _, _, rfl, _⟩ := h
    rfl
  · refine ⟨_, (pss_cons (ps_setLc (i := 3) (own := [("at", 4)]) (tt := tYes) rfl sc__law_put_in.nd rfl rfl (sw_true rfl rfl rfl (by decide +kernel)) (pi_range1 rfl T.m_range (pa_cons (pe_op op_add (pe_callB call_len_seq (by rfl) T.m_len PySem.boot_len (pa_cons (pv 0) pa_nil)) pe_int) pa_nil)) (blkOk_by (own := [("at", 4)]) (N := N__law_put_in) (sc := defScope s__law_put_in) (by decide +kernel)) (fun _ _ _ _ _ => (pg_name (i := 4) sc__law_put_in.nd rfl (Or.inl rfl))) (fun _ _ _ _ _ => pts_nil) (fun _ _ _ _ _ => (pe_op op_cat (pe_op op_cat (pe_slice (show SlR _ (rSlL K) from sl_list) (pv 0) po_none (po_some (pv 4))) (pe_lst (pa_cons (pv 1) pa_nil))) (pe_slice (show SlR _ (rSlL K) from sl_list) (pv 0) (po_some (pv 4)) po_none))))
      (pss_cons (ps_if (pt_val (pv 2)) (pss_one (ps_ret (pv 3))) pss_nil)
      (pss_one (ps_ret (pe_lstRev rfl (by rfl) T.m_list (by rfl) T.m_reversed (pv 3)))))), ?_⟩
    obtain ⟨a, o, x, odd, rfl, ha, hl, q⟩ := h
    walk_at "rd"
    refine rd_len (SqL.of ha) ?_
    rw [zsV_len]
    walk_at "rd"
    rw [show (o.length : Int) + 1 = ((o.length + 1 : Nat) : Int) by omega]
    refine lc_r (n := o.length + 1) (by omega) ?_
    rw [Int.toNat_natCast]
    refine lc_lists walk_rg (fun i => (zs (ins x i o)).map V.int) (fun _ _ => True.intro) ?_ ?_
    · rintro D i y H1 H2 hi c ⟨rfl, rfl⟩
      have ha2 := c.same _ _ ha
      walk_at "rd"
      refine ⟨rfl, ?_⟩
      walk_at "rd"
      refine rd_slice (SqL.of ha2) fun c1 nc1 => ?_
      rw [cut_to]
      walk_at "rd"
      refine rd_newL (by show 1 ≤ 100000; decide) fun c2 nc2 => ?_
      walk_at "rd"
      refine rd_cat (by rw [upd_ne (ne_of_none upd_same nc2)]; exact upd_same) upd_same (by rw [List.length_take, zsV_len]; show _ + 1 ≤ 100000; omega) fun c3 nc3 => ?_
      have sm3 := ((same_upd (o := .lst (((zs o).map V.int).take i)) nc1).trans (same_upd (o := .lst [V.int (x : Int)]) nc2)).trans (same_upd (o := .lst (((zs o).map V.int).take i ++ [V.int (x : Int)])) nc3)
      walk_at "rd"
      refine rd_slice (SqL.of (sm3 _ _ ha2)) fun c4 nc4 => ?_
      rw [cut_from]
      refine rd_cat (by rw [upd_ne (ne_of_none upd_same nc4)]; exact upd_same) upd_same (by rw [List.length_append, List.length_take, List.length_drop, zsV_len]; show _ + 1 + _ ≤ 100000; omega) fun c5 nc5 => ?_
      have sm5 := (sm3.trans (same_upd (o := .lst (((zs o).map V.int).drop i)) nc4)).trans (same_upd (o := .lst (((zs o).map V.int).take i ++ [V.int (x : Int)] ++ ((zs o).map V.int).drop i)) nc5)
      obtain ⟨zs', hD⟩ := c.new
      refine cl_new c sm5 (by omega) (by rw [upd_same, zs_ins]) ?_
      exact (ne_of_none (((sm3.trans (same_upd (o := .lst (((zs o).map V.int).drop i)) nc4))) _ _ hD) nc5).symm
    · intro D H1 nD sm1 hL
      walk_at "rd"
      refine if_b2 (fun e => ?_) (fun e => ?_)
      · walk_at "rd"
        refine q H1 D sm1 ?_
        simpa [e] using hL
      · walk_at "rd"
        refine rd_lstRev ?_
        walk_at "rd"
        obtain ⟨xs, hx, _⟩ := hL.len
        refine ⟨D, xs, rfl, SqL.of hx, fun b nb => ?_⟩
        refine q _ b (sm1.trans (same_upd nb)) ?_
        have := hL.rev hx nb
        rw [range_rev] at this
        simpa [e] using this

def ordersV (n : Nat) : List (List V) := (List.range (fact n)).map fun p => (zs (ordAt n p)).map V.int
theorem ordersV_len (n : Nat) : (ordersV n).length = fact n := by
  unfold ordersV
  rw [List.length_map, List.length_range]
theorem ordersV_at {n p : Nat} (h : p < fact n) : (ordersV n)[p]? = some ((zs (ordAt n p)).map V.int) := by
  unfold ordersV
  rw [List.getElem?_map, List.getElem?_range h]
  rfl
def sp_all_orders : Sp := fun vs H Q _ => ∃ n : Nat, vs = [.int (n : Int)] ∧ n ≤ 5 ∧ ∀ H' a, Same H H' → LL H' a (ordersV n) → Q (.ref a) H'
/-- the list behind k orders of the list ahead -/
def partV (n k : Nat) : List (List V) := (List.range (k * (n + 1))).map fun p => (zs (ordAt (n + 1) p)).map V.int
theorem partV_succ (n k : Nat) : partV n (k + 1) = partV n k ++ (List.range (n + 1)).map fun i => (zs (ins n (if decide (k % 2 = 1) = true then i else n - i) (ordAt n k))).map V.int := by
  unfold partV
  rw [Nat.add_mul, Nat.one_mul, List.range_add, List.map_append, List.map_map]
  congr 1
  apply List.map_congr_left
  intro i hi
  rw [List.mem_range] at hi
  have e1 : (k * (n + 1) + i) / (n + 1) = k := by
    rw [Nat.add_comm, Nat.mul_comm, Nat.add_mul_div_left _ _ (show 0 < n + 1 by omega), Nat.div_eq_of_lt hi, Nat.zero_add]
  have e2 : (k * (n + 1) + i) % (n + 1) = i := by
    rw [Nat.add_comm, Nat.mul_comm, Nat.add_mul_mod_self_left, Nat.mod_eq_of_lt hi]
  show (zs (ordAt (n + 1) (k * (n + 1) + i))).map V.int = _
  rw [ordAt_succ, e1, e2]
  congr 3
  unfold slot
  by_cases c : k % 2 = 0
  · rw [if_pos c, if_neg (by simp; omega)]
  · rw [if_neg c, if_pos (by simp; omega)]
theorem ok__law_all_orders (T : Txt K mg) : FnOk P w K mg base CX0 2 T.f__law_all_orders T.fd__law_all_orders ["things"] (sp_all_orders) := by
  have G__law_put_in := ok__law_put_in (P := P) (w := w) (base := base) T
  refine T.F__law_all_orders.ok sc__law_all_orders (fun vs H Q E h => ?_) (fun cdv A outer s H vs Q E hr h => ?_)
  · obtain ⟨_, rfl, _⟩ := h
    rfl
  · refine ⟨_, (pss_cons (ps_set (i := 1) sc__law_all_orders.nd rfl (Or.inl rfl) (pe_lst (pa_cons (pe_lst pa_nil) pa_nil)))
      (pss_cons (ps_for PassesOwn.never rfl (pi_range1 rfl T.m_range (pa_cons (pv 0) pa_nil)) (pg_name (i := 2) sc__law_all_orders.nd rfl (Or.inl rfl)) (pss_cons (ps_set (i := 3) sc__law_all_orders.nd rfl (Or.inl rfl) (pe_lst pa_nil))
      (pss_cons (ps_for PassesOwn.never rfl (pi_range1 rfl T.m_range (pa_cons (pe_callB call_len_seq (by rfl) T.m_len PySem.boot_len (pa_cons (pv 1) pa_nil)) pa_nil)) (pg_name (i := 4) sc__law_all_orders.nd rfl (Or.inl rfl)) (pss_one (ps_set (i := 3) sc__law_all_orders.nd rfl (Or.inl rfl) (pe_op op_cat (pv 3) (pe_call G__law_put_in (hr.mono (by decide)) (by rfl) T.g__law_put_in T.F__law_put_in.kp T.b__law_put_in .nil pass0 (pa_cons (pe_ix ix_list (pv 1) (pv 4) (fun _ _ => rfl)) (pa_cons (pv 2) (pa_cons (pe_cmpR op_eq (pe_op op_mod (pv 4) pe_int) pe_int (nomark _)) pa_nil))))))))
      (pss_one (ps_set (i := 1) sc__law_all_orders.nd rfl (Or.inl rfl) (pv 3))))))
      (pss_one (ps_ret (pv 1))))), ?_⟩
    obtain ⟨n, rfl, hn, q⟩ := h
    walk_at "rd"
    refine rd_newL (by decide) fun a0 na0 => ?_
    walk_at "rd"
    refine rd_newL (by show 1 ≤ 100000; decide) fun a1 na1 => ?_
    walk_at "rd"
    refine for1 (n := n) (by omega) (fun m σ' H' => ∃ (f : Addr) (z1 z2 z3 : Option V), σ' = [some (.int (n : Int)), some (.ref f), z1, z2, z3] ∧ Same H H' ∧ LL H' f (ordersV m)) ⟨a1, _, _, _, rfl, (same_upd na0).trans (same_upd na1), ?_⟩ ?_ ?_
    · exact LL_one upd_same (by rw [upd_ne (ne_of_none upd_same na1)]; exact upd_same)
    · rintro m σ' H1 hm ⟨f, z1, z2, z3, rfl, sm, hL⟩
      have bd : fact m ≤ 120 := fact_le (show m ≤ 5 by omega)
      obtain ⟨xs, hx, hxl⟩ := hL.len
      rw [ordersV_len] at hxl
      walk_at "rd"
      refine rd_newL (by decide) fun lo nlo => ?_
      walk_at "rd"
      refine rd_len (SqL.of ((same_upd nlo) _ _ hx)) ?_
      rw [hxl]
      refine for1 (n := fact m) (by omega) (fun k σ' H' => ∃ (g : Addr) (z3 : Option V), σ' = [some (.int (n : Int)), some (.ref f), some (.int (m : Int)), some (.ref g), z3] ∧ Same H1 H' ∧ LL H' g (partV m k)) ⟨lo, _, rfl, same_upd nlo, ?_⟩ ?_ ?_
      · have e0 : partV m 0 = [] := by
          unfold partV
          rw [Nat.zero_mul]
          rfl
        rw [e0]
        exact ⟨[], upd_same, rfl, fun j p w e => by simp at e⟩
      · rintro k σ' H2 hk ⟨g, z3, rfl, sm2, hG⟩
        obtain ⟨ys, hy, hyl⟩ := hG.len
        have hyb : ys.length ≤ 1000 := by
          rw [hyl]
          unfold partV
          rw [List.length_map, List.length_range]
          have h1 : k * (m + 1) ≤ 120 * 6 := Nat.mul_le_mul (by omega) (by omega)
          omega
        have hx2 := sm2 _ _ hx
        obtain ⟨xs', d, e3, e4, e5, e6⟩ := (hL.same sm2).at (ordersV_at hk)
        rw [hx2] at e3
        cases e3
        have lk := ordAt_len m k
        walk_at "rd"
        refine rd_at (SqL.of hx2) e5 ?_
        walk_at "rd"
        rw [show decide ((k : Int) % 2 = 1) = decide (k % 2 = 1) by rw [decide_eq_decide]; omega]
        refine ⟨d, ordAt m k, m, decide (k % 2 = 1), rfl, e6, by omega, fun H3 b3 sm3 hB => ?_⟩
        rw [lk] at hB
        have hG3 := hG.same sm3
        obtain ⟨us, hu, hul⟩ := hG3.len
        obtain ⟨ws, hw, hwl⟩ := hB.len
        rw [List.length_map, List.length_range] at hwl
        have hus : us.length ≤ 1000 := by
          have := sm3 _ _ hy
          rw [hu] at this
          cases this
          exact hyb
        refine rd_cat hu hw (by omega) fun c nc => ?_
        walk_at "rd"
        refine ⟨c, _, rfl, (sm2.trans sm3).trans (same_upd nc), ?_⟩
        rw [partV_succ]
        exact hG3.cat hB hu hw nc
      · rintro σ' H2 ⟨g, z3, rfl, sm2, hG⟩
        walk_at "rd"
        exact ⟨g, _, _, _, rfl, sm.trans sm2, hG⟩
    · rintro σ' H1 ⟨f, z1, z2, z3, rfl, sm, hL⟩
      walk_at "rd"
      exact q H1 f sm hL
theorem ok_law (T : Txt K mg) : FnOk P w K mg base CX0 4 T.f_law T.fd_law ["script"] (spLaw K) := by
  have G__law_all_orders := ok__law_all_orders (P := P) (w := w) (base := base) T
  have G_orders := ok_orders (P := P) (w := w) (base := base) T
  have G_order_at := ok_order_at (P := P) (w := w) (base := base) T
  have G__law_is_list := ok__law_is_list (P := P) (w := w) (base := base) T
  have G__law_cell_at := ok__law_cell_at (P := P) (w := w) (base := base) T
  have G__law_whole := ok__law_whole (P := P) (w := w) (base := base) T
  refine T.F_law.ok sc_law (fun vs H Q E h => ?_) (fun cdv A outer s H vs Q E hr h => ?_)
  · obtain ⟨_, _, rfl, _⟩ := h
    rfl
  · refine ⟨_, (pss_cons (ps_set (i := 1) sc_law.nd rfl (Or.inl rfl) (pe_op op_mod (pe_call G__law_cell_at (hr.mono (by decide)) (by rfl) T.g__law_cell_at T.F__law_cell_at.kp T.b__law_cell_at .nil pass0 (pa_cons (pv 0) (pa_cons pe_int pa_nil))) pe_int))
      (pss_cons (ps_set (i := 2) sc_law.nd rfl (Or.inl rfl) (pe_call G__law_all_orders (hr.mono (by decide)) (by rfl) T.g__law_all_orders T.F__law_all_orders.kp T.b__law_all_orders .nil pass0 (pa_cons (pv 1) pa_nil)))
      (pss_cons (ps_set (i := 3) sc_law.nd rfl (Or.inl rfl) (pe_call G_orders (hr.mono (by decide)) (by rfl) T.g_orders T.F_orders.kp T.b_orders .nil pass0 (pa_cons (pv 1) pa_nil)))
      (pss_cons (ps_if (PW.pt (pw_or (pt_not (pt_val (pe_call G__law_whole (hr.mono (by decide)) (by rfl) T.g__law_whole T.F__law_whole.kp T.b__law_whole .nil pass0 (pa_cons (pv 3) pa_nil)))) (pw_or1 (pt_cmpR op_ne (pv 3) (pe_callB call_len_seq (by rfl) T.m_len PySem.boot_len (pa_cons (pv 2) pa_nil)) (nomark _))))) (pss_one (ps_ret pe_bl)) pss_nil)
      (pss_cons (ps_set (i := 4) sc_law.nd rfl (Or.inl rfl) (pe_op op_mod (pe_call G__law_cell_at (hr.mono (by decide)) (by rfl) T.g__law_cell_at T.F__law_cell_at.kp T.b__law_cell_at .nil pass0 (pa_cons (pv 0) (pa_cons pe_int pa_nil))) (pe_callB call_len_seq (by rfl) T.m_len PySem.boot_len (pa_cons (pv 2) pa_nil))))
      (pss_cons (ps_set (i := 5) sc_law.nd rfl (Or.inl rfl) (pe_call G_order_at (hr.mono (by decide)) (by rfl) T.g_order_at T.F_order_at.kp T.b_order_at .nil pass0 (pa_cons (pv 1) (pa_cons (pv 4) pa_nil))))
      (pss_cons (ps_if (pt_not (pt_val (pe_call G__law_is_list (hr.mono (by decide)) (by rfl) T.g__law_is_list T.F__law_is_list.kp T.b__law_is_list .nil pass0 (pa_cons (pv 5) (pa_cons (pe_ix ix_list (pv 2) (pv 4) (fun _ _ => rfl)) pa_nil))))) (pss_one (ps_ret pe_bl)) pss_nil)
      (pss_cons (ps_expr (pe_bm PySem.F.plainAttrs_list PySem.F.slot_list_append PySem.F.type_list_append mt_append (pv 5) (pa_cons pe_int pa_nil)))
      (pss_one (ps_ret (pe_call G__law_is_list (hr.mono (by decide)) (by rfl) T.g__law_is_list T.F__law_is_list.kp T.b__law_is_list .nil pass0 (pa_cons (pe_call G_order_at (hr.mono (by decide)) (by rfl) T.g_order_at T.F_order_at.kp T.b_order_at .nil pass0 (pa_cons (pv 1) (pa_cons (pv 4) pa_nil))) (pa_cons (pe_ix ix_list (pv 2) (pv 4) (fun _ _ => rfl)) pa_nil))))))))))))), ?_⟩
    obtain ⟨a, ns, rfl, hS, hl, q⟩ := h
    walk_at "rd"
    refine ⟨a, ns, 0, rfl, hS, ?_⟩
    walk_at "rd"
    have p0 : 0 ≤ ns.getD 0 0 % 6 := Int.emod_nonneg _ (by decide)
    have p1 : ns.getD 0 0 % 6 < 6 := Int.emod_lt_of_pos _ (by decide)
    obtain ⟨n, e⟩ := Int.eq_ofNat_of_zero_le p0
    rw [e] at p1 ⊢
    have hn : n ≤ 5 := by omega
    refine ⟨n, rfl, hn, fun H1 b1 sm1 hL => ?_⟩
    have pos := fact_pos n
    have bd : fact n ≤ 120 := fact_le hn
    walk_at "rd"
    refine ⟨n, rfl, by omega, ?_⟩
    walk_at "rd"
    refine ⟨_, rfl, ?_⟩
    walk_at "rd"
    obtain ⟨xs, hx, hxl⟩ := hL.len
    rw [ordersV_len] at hxl
    refine rd_len (SqL.of hx) ?_
    rw [hxl]
    walk_at "rd"
    refine ⟨a, ns, 1, rfl, same_list sm1 hS, ?_⟩
    walk_at "rd"
    refine rd_len (SqL.of hx) ?_
    rw [hxl]
    walk_at "rd"
    have r0 : 0 ≤ ns.getD 1 0 % ((fact n : Nat) : Int) := Int.emod_nonneg _ (by omega)
    have r1 : ns.getD 1 0 % ((fact n : Nat) : Int) < ((fact n : Nat) : Int) := Int.emod_lt_of_pos _ (by omega)
    obtain ⟨p, e2⟩ := Int.eq_ofNat_of_zero_le r0
    rw [e2] at r1 ⊢
    have hp : p < fact n := by omega
    have lo := ordAt_len n p
    refine ⟨n, p, rfl, by omega, hp, fun H2 b2 sm2 nb2 hb2 => ?_⟩
    obtain ⟨xs', d, e3, e4, e5, e6⟩ := hL.at (ordersV_at hp)
    rw [hx] at e3
    cases e3
    have hx2 := sm2 _ _ hx
    have hd2 := sm2 _ _ e6
    walk_at "rd"
    refine rd_at (SqL.of hx2) e5 ?_
    walk_at "rd"
    refine ⟨b2, d, zs (ordAt n p), rfl, hb2, SqL.of hd2, by rw [zs_len]; omega, ?_⟩
    walk_at "rd"
    refine ⟨tyL hb2, ?_⟩
    walk_at "rd"
    refine rd_app hb2 (by rw [zsV_len]; omega) ?_
    have sm3 : Same H1 (upd H2 b2 (.lst ((zs (ordAt n p)).map V.int ++ [V.int 0]))) := same_mut sm2 nb2
    walk_at "rd"
    refine ⟨n, p, rfl, by omega, hp, fun H4 b4 sm4 nb4 hb4 => ?_⟩
    have hx4 := sm4 _ _ (sm3 _ _ hx)
    have hd4 := sm4 _ _ (sm3 _ _ e6)
    walk_at "rd"
    refine rd_at (SqL.of hx4) e5 ?_
    walk_at "rd"
    exact ⟨b4, d, zs (ordAt n p), rfl, hb4, SqL.of hd4, by rw [zs_len]; omega, q _⟩
end
end One
namespace One
open PySem L2
/-! ### what the top has written; the head -/
theorem all_mk {l : PySem.W.OpenLaw} {w : World} {K : PySem.W.Frag} {h : Heap} {mg : Str → Option Value} {fa f0 f1 f2 f3 f4 f5 f6 f7 f8 : Addr} (X : K.In h) (G : h.Ns mainGlobals mg) (hfa : mg "law" = some (.ref fa))
    {od0 an0 : Option Addr} {sl0 : Array (Option Value)} {oc0 kV0 dc0 pm0 cd0 ct0 : Value}
    {od1 an1 : Option Addr} {sl1 : Array (Option Value)} {oc1 kV1 dc1 pm1 cd1 ct1 : Value}
    {od2 an2 : Option Addr} {sl2 : Array (Option Value)} {oc2 kV2 dc2 pm2 cd2 ct2 : Value}
    {od3 an3 : Option Addr} {sl3 : Array (Option Value)} {oc3 kV3 dc3 pm3 cd3 ct3 : Value}
    {od4 an4 : Option Addr} {sl4 : Array (Option Value)} {oc4 kV4 dc4 pm4 cd4 ct4 : Value}
    {od5 an5 : Option Addr} {sl5 : Array (Option Value)} {oc5 kV5 dc5 pm5 cd5 ct5 : Value}
    {od6 an6 : Option Addr} {sl6 : Array (Option Value)} {oc6 kV6 dc6 pm6 cd6 ct6 : Value}
    {od7 an7 : Option Addr} {sl7 : Array (Option Value)} {oc7 kV7 dc7 pm7 cd7 ct7 : Value}
    {od8 an8 : Option Addr} {sl8 : Array (Option Value)} {oc8 kV8 dc8 pm8 cd8 ct8 : Value}
    {t_MOST : Tok}
    (a_orders : PySem.W.nsIn K mainGlobals "orders" = some (some (.ref f0)))
    (a_asked : PySem.W.nsIn K mainGlobals "asked" = some (some (.ref f1)))
    (a_order_at : PySem.W.nsIn K mainGlobals "order_at" = some (some (.ref f2)))
    (a__law_cell_at : PySem.W.nsIn K mainGlobals "_law_cell_at" = some (some (.ref f3)))
    (a__law_whole : PySem.W.nsIn K mainGlobals "_law_whole" = some (some (.ref f4)))
    (a__law_is_list : PySem.W.nsIn K mainGlobals "_law_is_list" = some (some (.ref f5)))
    (a__law_put_in : PySem.W.nsIn K mainGlobals "_law_put_in" = some (some (.ref f6)))
    (a__law_all_orders : PySem.W.nsIn K mainGlobals "_law_all_orders" = some (some (.ref f7)))
    (a_law : PySem.W.nsIn K mainGlobals "law" = some (some (.ref f8)))
    (a_MOST : PySem.W.nsIn K mainGlobals "MOST" = some (some (.int 20 t_MOST)))
    (z_bool : PySem.W.nsIn K mainGlobals "bool" = some none)
    (z_int : PySem.W.nsIn K mainGlobals "int" = some none)
    (z_isinstance : PySem.W.nsIn K mainGlobals "isinstance" = some none)
    (z_len : PySem.W.nsIn K mainGlobals "len" = some none)
    (z_list : PySem.W.nsIn K mainGlobals "list" = some none)
    (z_range : PySem.W.nsIn K mainGlobals "range" = some none)
    (z_reversed : PySem.W.nsIn K mainGlobals "reversed" = some none)
    (l0 : K.lookup f0 = some ⟨oc0, od0, .func (PySem.W.fnOf "orders" "orders" (defArgs s_orders) (defBody s_orders) (defScope s_orders) .none kV0 dc0 pm0 an0 cd0 ct0), sl0⟩)
    (c0 : PySem.W.codeIn K cd0 "orders" = true)
    (k0 : PySem.W.keepIn K (.ref f0) = true)
    (l1 : K.lookup f1 = some ⟨oc1, od1, .func (PySem.W.fnOf "asked" "asked" (defArgs s_asked) (defBody s_asked) (defScope s_asked) .none kV1 dc1 pm1 an1 cd1 ct1), sl1⟩)
    (c1 : PySem.W.codeIn K cd1 "asked" = true)
    (k1 : PySem.W.keepIn K (.ref f1) = true)
    (l2 : K.lookup f2 = some ⟨oc2, od2, .func (PySem.W.fnOf "order_at" "order_at" (defArgs s_order_at) (defBody s_order_at) (defScope s_order_at) .none kV2 dc2 pm2 an2 cd2 ct2), sl2⟩)
    (c2 : PySem.W.codeIn K cd2 "order_at" = true)
    (k2 : PySem.W.keepIn K (.ref f2) = true)
    (l3 : K.lookup f3 = some ⟨oc3, od3, .func (PySem.W.fnOf "_law_cell_at" "_law_cell_at" (defArgs s__law_cell_at) (defBody s__law_cell_at) (defScope s__law_cell_at) .none kV3 dc3 pm3 an3 cd3 ct3), sl3⟩)
    (c3 : PySem.W.codeIn K cd3 "_law_cell_at" = true)
    (k3 : PySem.W.keepIn K (.ref f3) = true)
    (l4 : K.lookup f4 = some ⟨oc4, od4, .func (PySem.W.fnOf "_law_whole" "_law_whole" (defArgs s__law_whole) (defBody s__law_whole) (defScope s__law_whole) .none kV4 dc4 pm4 an4 cd4 ct4), sl4⟩)
    (c4 : PySem.W.codeIn K cd4 "_law_whole" = true)
    (k4 : PySem.W.keepIn K (.ref f4) = true)
    (l5 : K.lookup f5 = some ⟨oc5, od5, .func (PySem.W.fnOf "_law_is_list" "_law_is_list" (defArgs s__law_is_list) (defBody s__law_is_list) (defScope s__law_is_list) .none kV5 dc5 pm5 an5 cd5 ct5), sl5⟩)
    (c5 : PySem.W.codeIn K cd5 "_law_is_list" = true)
    (k5 : PySem.W.keepIn K (.ref f5) = true)
    (l6 : K.lookup f6 = some ⟨oc6, od6, .func (PySem.W.fnOf "_law_put_in" "_law_put_in" (defArgs s__law_put_in) (defBody s__law_put_in) (defScope s__law_put_in) .none kV6 dc6 pm6 an6 cd6 ct6), sl6⟩)
    (c6 : PySem.W.codeIn K cd6 "_law_put_in" = true)
    (k6 : PySem.W.keepIn K (.ref f6) = true)
    (l7 : K.lookup f7 = some ⟨oc7, od7, .func (PySem.W.fnOf "_law_all_orders" "_law_all_orders" (defArgs s__law_all_orders) (defBody s__law_all_orders) (defScope s__law_all_orders) .none kV7 dc7 pm7 an7 cd7 ct7), sl7⟩)
    (c7 : PySem.W.codeIn K cd7 "_law_all_orders" = true)
    (k7 : PySem.W.keepIn K (.ref f7) = true)
    (l8 : K.lookup f8 = some ⟨oc8, od8, .func (PySem.W.fnOf "law" "law" (defArgs s_law) (defBody s_law) (defScope s_law) .none kV8 dc8 pm8 an8 cd8 ct8), sl8⟩)
    (c8 : PySem.W.codeIn K cd8 "law" = true)
    (k8 : PySem.W.keepIn K (.ref f8) = true) :
    ∃ fd : FuncData, (∀ (s : Shared) (v : Value), BindsTo s fd ⟨[v], []⟩ [("script", v)]) ∧ ∀ base : Heap, K.In base → base.Ns mainGlobals mg → FnOk l.prog w K mg base CX0 4 fa fd ["script"] (spLaw K) := by
  have e := hfa.symm.trans (PySem.W.mg_of X G a_law)
  cases e
  have F0 := fun_mk (st := s_orders) l0 c0 k0
  have b0 := F0.binds (ps := ["things"]) fun _ _ _ _ _ _ us hl => match us, hl with | [_], _ => rfl
  have F1 := fun_mk (st := s_asked) l1 c1 k1
  have b1 := F1.binds (ps := ["things", "place"]) fun _ _ _ _ _ _ us hl => match us, hl with | [_, _], _ => rfl
  have F2 := fun_mk (st := s_order_at) l2 c2 k2
  have b2 := F2.binds (ps := ["things", "place"]) fun _ _ _ _ _ _ us hl => match us, hl with | [_, _], _ => rfl
  have F3 := fun_mk (st := s__law_cell_at) l3 c3 k3
  have b3 := F3.binds (ps := ["script", "k"]) fun _ _ _ _ _ _ us hl => match us, hl with | [_, _], _ => rfl
  have F4 := fun_mk (st := s__law_whole) l4 c4 k4
  have b4 := F4.binds (ps := ["found"]) fun _ _ _ _ _ _ us hl => match us, hl with | [_], _ => rfl
  have F5 := fun_mk (st := s__law_is_list) l5 c5 k5
  have b5 := F5.binds (ps := ["found", "due"]) fun _ _ _ _ _ _ us hl => match us, hl with | [_, _], _ => rfl
  have F6 := fun_mk (st := s__law_put_in) l6 c6 k6
  have b6 := F6.binds (ps := ["order", "thing", "odd"]) fun _ _ _ _ _ _ us hl => match us, hl with | [_, _, _], _ => rfl
  have F7 := fun_mk (st := s__law_all_orders) l7 c7 k7
  have b7 := F7.binds (ps := ["things"]) fun _ _ _ _ _ _ us hl => match us, hl with | [_], _ => rfl
  have F8 := fun_mk (st := s_law) l8 c8 k8
  have b8 := F8.binds (ps := ["script"]) fun _ _ _ _ _ _ us hl => match us, hl with | [_], _ => rfl
  let T : Txt K mg := {f_orders := f0, F_orders := F0, b_orders := b0, f_asked := f1, F_asked := F1, b_asked := b1, f_order_at := f2, F_order_at := F2, b_order_at := b2, f__law_cell_at := f3, F__law_cell_at := F3, b__law_cell_at := b3, f__law_whole := f4, F__law_whole := F4, b__law_whole := b4, f__law_is_list := f5, F__law_is_list := F5, b__law_is_list := b5, f__law_put_in := f6, F__law_put_in := F6, b__law_put_in := b6, f__law_all_orders := f7, F__law_all_orders := F7, b__law_all_orders := b7, f_law := fa, F_law := F8, b_law := b8, g_orders := PySem.W.mg_of X G a_orders, g_asked := PySem.W.mg_of X G a_asked, g_order_at := PySem.W.mg_of X G a_order_at, g__law_cell_at := PySem.W.mg_of X G a__law_cell_at, g__law_whole := PySem.W.mg_of X G a__law_whole, g__law_is_list := PySem.W.mg_of X G a__law_is_list, g__law_put_in := PySem.W.mg_of X G a__law_put_in, g__law_all_orders := PySem.W.mg_of X G a__law_all_orders, g_law := PySem.W.mg_of X G a_law, t_MOST := t_MOST, g_MOST := PySem.W.mg_of X G a_MOST, m_bool := PySem.W.mg_none_of X G z_bool, m_int := PySem.W.mg_none_of X G z_int, m_isinstance := PySem.W.mg_none_of X G z_isinstance, m_len := PySem.W.mg_none_of X G z_len, m_list := PySem.W.mg_none_of X G z_list, m_range := PySem.W.mg_none_of X G z_range, m_reversed := PySem.W.mg_none_of X G z_reversed, fd_orders := _, fd_asked := _, fd_order_at := _, fd__law_cell_at := _, fd__law_whole := _, fd__law_is_list := _, fd__law_put_in := _, fd__law_all_orders := _, fd_law := _}
  exact ⟨PySem.W.fnOf "law" "law" (defArgs s_law) (defBody s_law) (defScope s_law) .none kV8 dc8 pm8 an8 cd8 ct8, fun s v => .of_eq rfl, fun base _ _ => ok_law (P := l.prog) (w := w) (base := base) T⟩
end One
open PySem PySem.W PyProof.Rows
set_option maxRecDepth 100000 in
set_option maxHeartbeats 0 in
theorem PySem.Challenge.cw_onestep_k09_orders_listed_holds : PySem.Challenge.rw_onestep_k09_orders_listed.Holds := by
  w_on; o_law; k_head; (case hw => w_witness2)
  k_fill
  refine L2.walk_of (l := PySem.Challenge.rw_onestep_k09_orders_listed) (n := 63) (k := 4) (x := "script") (CX := fun _ => L2.CX0) (sp := fun w => One.spLaw _) rfl (by decide) rfl ⟨rfl, by decide, by decide⟩ (fun w h Y => PySem.W.kIn_of Y) ?F (fun _ _ a ns hl _ hS => ⟨a, ns, rfl, hS, hl, fun _ => rfl⟩) (fun _ _ _ _ _ h => h)
  case F =>
    intro w mg fa h KX G hmg
    refine' One.all_mk KX G hmg ?a_orders ?a_asked ?a_order_at ?a__law_cell_at ?a__law_whole ?a__law_is_list ?a__law_put_in ?a__law_all_orders ?a_law ?a_MOST ?z_bool ?z_int ?z_isinstance ?z_len ?z_list ?z_range ?z_reversed ?l0 ?c0 ?k0 ?l1 ?c1 ?k1 ?l2 ?c2 ?k2 ?l3 ?c3 ?k3 ?l4 ?c4 ?k4 ?l5 ?c5 ?k5 ?l6 ?c6 ?k6 ?l7 ?c7 ?k7 ?l8 ?c8 ?k8
    (case a_orders => k_is)
    (case a_asked => k_is)
    (case a_order_at => k_is)
    (case a__law_cell_at => k_is)
    (case a__law_whole => k_is)
    (case a__law_is_list => k_is)
    (case a__law_put_in => k_is)
    (case a__law_all_orders => k_is)
    (case a_law => k_is)
    (case a_MOST => k_is)
    (case z_bool => k_is)
    (case z_int => k_is)
    (case z_isinstance => k_is)
    (case z_len => k_is)
    (case z_list => k_is)
    (case z_range => k_is)
    (case z_reversed => k_is)
    (case l0 => k_is)
    (case c0 => k_is)
    (case k0 => k_is)
    (case l1 => k_is)
    (case c1 => k_is)
    (case k1 => k_is)
    (case l2 => k_is)
    (case c2 => k_is)
    (case k2 => k_is)
    (case l3 => k_is)
    (case c3 => k_is)
    (case k3 => k_is)
    (case l4 => k_is)
    (case c4 => k_is)
    (case k4 => k_is)
    (case l5 => k_is)
    (case c5 => k_is)
    (case k5 => k_is)
    (case l6 => k_is)
    (case c6 => k_is)
    (case k6 => k_is)
    (case l7 => k_is)
    (case c7 => k_is)
    (case k7 => k_is)
    (case l8 => k_is)
    (case c8 => k_is)
    (case k8 => k_is)
