import PyProof.Rows.All
import Wide.All
import OpenK.AllK
import Wide.FinOn
import HandS.ForMost
import HandS.ForExc
import HandS.IsInst
import HandS.Zip
import HandS.Style
import HandS.Property
import HandS.Walk
import PySem.Challenge.RW_brimful_k54_whole_loans_give_back
import KE.GoesNew
set_option Elab.async false
set_option linter.all false
set_option maxRecDepth 100000
set_option maxHeartbeats 4000000
/-! Brimful, the vault: the text by its places; what the top has written. -/
namespace Bk
open PySem PySem.Spec PyProof.Rows L2
def top (i : Nat) : Stmt := PySem.Challenge.pw_brimful_k54_whole_loans_give_back.main.body.getD i (.Pass ⟨0, 0, 0, 0⟩)
abbrev sIsInteger : Stmt := top 8
abbrev sIsNumber : Stmt := top 9
abbrev sIsPrime : Stmt := top 10
abbrev sInverseOf : Stmt := top 11
abbrev sWeights : Stmt := top 12
abbrev sInterpolate : Stmt := top 13
abbrev sIsFactor : Stmt := top 16
abbrev sIsTable : Stmt := top 17
abbrev sIsAdd : Stmt := top 18
abbrev sIsLook : Stmt := top 19
abbrev sIsStep : Stmt := top 20
abbrev sInverseStep : Stmt := top 21
abbrev sPerform : Stmt := top 22
abbrev sCheckSteps : Stmt := top 24
abbrev sCheckNumbers : Stmt := top 30
abbrev sPInit : Stmt := inClass (top 31) 0
abbrev sLInit : Stmt := inClass (top 34) 0
abbrev sVInit : Stmt := inClass (top 35) 0
abbrev sVMemory : Stmt := inClass (top 35) 1
abbrev sVLend : Stmt := inClass (top 35) 2
abbrev sVFound : Stmt := inClass (top 35) 3
abbrev sVBlocked : Stmt := inClass (top 35) 4
abbrev sVPerform : Stmt := inClass (top 35) 5
abbrev sVAdvance : Stmt := inClass (top 35) 6
abbrev sVAnswer : Stmt := inClass (top 35) 7
abbrev sVRecall : Stmt := inClass (top 35) 8
abbrev sVOpenLoans : Stmt := inClass (top 35) 9
abbrev sLMixed : Stmt := top 37
abbrev sLNumbers : Stmt := top 38
abbrev sLDraw : Stmt := top 39
abbrev sLEqual : Stmt := top 40
abbrev sLAllEqual : Stmt := top 41
abbrev sLGcd : Stmt := top 42
abbrev sLFactors : Stmt := top 43
abbrev sLNumber : Stmt := top 44
abbrev sLIsPrime : Stmt := top 45
abbrev sLModulus : Stmt := top 46
abbrev sLLook : Stmt := top 47
abbrev sLStep : Stmt := top 48
abbrev sLPlaces : Stmt := top 49
abbrev sLLoan : Stmt := top 50
abbrev sLSize : Stmt := top 51
abbrev sLCalled : Stmt := top 52
abbrev sLHouse : Stmt := top 53
abbrev sLMove : Stmt := top 54
abbrev sLGivenBack : Stmt := top 55
abbrev sLaw : Stmt := top 56
/-- a def of the text as it stands behind the top -/
structure Df (K : PySem.W.Frag) (x qual : Str) (st : Stmt) (ps : List Str) where
  f : Addr
  fd : FuncData
  F : Fun K x qual st f fd
  b0 : ∀ us : List Value, us.length = ps.length → bindArgs fd ⟨us, []⟩ = pure (ps.zip us)
theorem Df.b {K : PySem.W.Frag} {x qual : Str} {st : Stmt} {ps : List Str} (d : Df K x qual st ps) : Binds K d.fd ps [] := Binds.all d.b0
theorem Df.kp {K : PySem.W.Frag} {x qual : Str} {st : Stmt} {ps : List Str} (d : Df K x qual st ps) : PySem.W.keepIn K (.ref d.f) = true := d.F.kp
structure Gd (K : PySem.W.Frag) (mg : Str → Option Value) (x : Str) (st : Stmt) (ps : List Str) extends Df K x x st ps where
  g : mg x = some (.ref f)
structure Md (K : PySem.W.Frag) (C : Addr) (x qual : Str) (st : Stmt) (ps : List Str) extends Df K x qual st ps where
  m : Meth K C x f
structure Id (K : PySem.W.Frag) (C : Addr) (qual : Str) (st : Stmt) (ps : List Str) extends Df K "__init__" qual st ps where
  i : Mk K C f
structure Pd (K : PySem.W.Frag) (C : Addr) (x qual : Str) (st : Stmt) (ps : List Str) extends Df K x qual st ps where
  p : Addr
  o : PropOf K C x p f
structure Cd (K : PySem.W.Frag) (mg : Str → Option Value) (x : Str) (fs : List Str) where
  C : Addr
  c : Cls K C
  g : mg x = some (.ref C)
  n : ∀ y ∈ fs, NoAttr K C y
structure Xd (K : PySem.W.Frag) (mg : Str → Option Value) (x : Str) where
  C : Addr
  g : mg x = some (.ref C)
  x : PySem.W.excIn K C [.type "ValueError", .type "Exception", .type "BaseException", .type "object"] "ValueError.__new__" = true
  kp : PySem.W.keepIn K (.ref C) = true
  sb : PySem.W.subIn K (.ref C) (.type "BaseException") = some true
  ty : PySem.W.typeIn K (.ref C) = some (.type "type")
  ex : PySem.W.exmOne K (.ref C) (.ref C) = some true
structure Top (K : PySem.W.Frag) (mg : Str → Option Value) where
  cProgram : Cd K mg "Program" ["modulus", "cells", "inputs", "steps"]
  cLoan : Cd K mg "Loan" ["program", "places", "given", "begun", "done"]
  cVault : Cd K mg "Vault" ["modulus", "cells", "loans"]
  xBusy : Xd K mg "Busy"
  isInteger : Gd K mg "is_integer" sIsInteger ["value"]
  isNumber : Gd K mg "is_number" sIsNumber ["value", "modulus"]
  isPrime : Gd K mg "is_prime" sIsPrime ["n"]
  inverseOf : Gd K mg "inverse_of" sInverseOf ["n", "modulus"]
  weights : Gd K mg "weights" sWeights ["size", "prime", "x"]
  interpolate : Gd K mg "interpolate" sInterpolate ["table", "prime", "x", "y"]
  isFactor : Gd K mg "is_factor" sIsFactor ["factor", "target", "cells", "inputs"]
  isTable : Gd K mg "is_table" sIsTable ["table", "modulus"]
  isAdd : Gd K mg "is_add" sIsAdd ["step", "modulus", "cells", "inputs"]
  isLook : Gd K mg "is_look" sIsLook ["step", "modulus", "cells"]
  isStep : Gd K mg "is_step" sIsStep ["step", "modulus", "cells", "inputs"]
  inverseStep : Gd K mg "inverse_step" sInverseStep ["step", "modulus"]
  perform : Gd K mg "perform" sPerform ["step", "memory", "given", "modulus"]
  checkSteps : Gd K mg "check_steps" sCheckSteps ["steps", "modulus", "cells", "inputs", "most"]
  checkNumbers : Gd K mg "check_numbers" sCheckNumbers ["values", "many", "modulus"]
  pInit : Id K cProgram.C "Program.__init__" sPInit ["self", "modulus", "cells", "inputs", "steps"]
  lInit : Id K cLoan.C "Loan.__init__" sLInit ["self", "program", "places", "given", "begun"]
  vInit : Id K cVault.C "Vault.__init__" sVInit ["self", "memory", "modulus"]
  vMemory : Pd K cVault.C "memory" "Vault.memory" sVMemory ["self"]
  vLend : Md K cVault.C "lend" "Vault.lend" sVLend ["self", "program", "places", "given"]
  vFound : Md K cVault.C "found" "Vault.found" sVFound ["self", "ticket"]
  vBlocked : Md K cVault.C "blocked" "Vault.blocked" sVBlocked ["self", "ticket"]
  vPerform : Md K cVault.C "perform" "Vault.perform" sVPerform ["self", "loan", "step"]
  vAdvance : Md K cVault.C "advance" "Vault.advance" sVAdvance ["self", "ticket", "most"]
  vAnswer : Md K cVault.C "answer" "Vault.answer" sVAnswer ["self", "ticket"]
  vRecall : Md K cVault.C "recall" "Vault.recall" sVRecall ["self", "ticket"]
  vOpenLoans : Md K cVault.C "open_loans" "Vault.open_loans" sVOpenLoans ["self"]
  LMixed : Gd K mg "_law_mixed" sLMixed ["_law_number_here", "_law_k"]
  LNumbers : Gd K mg "_law_numbers" sLNumbers ["_law_script"]
  LDraw : Gd K mg "_law_draw" sLDraw ["_law_draws"]
  LEqual : Gd K mg "_law_equal" sLEqual ["_law_actual", "_law_due"]
  LAllEqual : Gd K mg "_law_all_equal" sLAllEqual ["_law_actual", "_law_due"]
  LGcd : Gd K mg "_law_gcd" sLGcd ["_law_a", "_law_b"]
  LFactors : Gd K mg "_law_factors" sLFactors ["_law_draws", "_law_cells", "_law_inputs", "_law_target"]
  LNumber : Gd K mg "_law_number" sLNumber ["_law_draws", "_law_modulus_here"]
  LIsPrime : Gd K mg "_law_is_prime" sLIsPrime ["_law_number_here"]
  LModulus : Gd K mg "_law_modulus" sLModulus ["_law_draws"]
  LLook : Gd K mg "_law_look" sLLook ["_law_draws", "_law_modulus_here", "_law_cells", "_law_target"]
  LStep : Gd K mg "_law_step" sLStep ["_law_draws", "_law_modulus_here", "_law_cells", "_law_inputs"]
  LPlaces : Gd K mg "_law_places" sLPlaces ["_law_draws", "_law_size_here", "_law_cells"]
  LLoan : Gd K mg "_law_loan" sLLoan ["_law_draws", "_law_modulus_here", "_law_size_here"]
  LSize : Gd K mg "_law_size" sLSize ["_law_draws"]
  LCalled : Gd K mg "_law_called" sLCalled ["_law_vault", "_law_pick", "_law_ticket", "_law_most"]
  LHouse : Gd K mg "_law_house" sLHouse ["_law_draws", "_law_modulus_here"]
  LMove : Gd K mg "_law_move" sLMove ["_law_draws", "_law_house_here", "_law_modulus_here", "_law_known"]
  LGivenBack : Gd K mg "_law_given_back" sLGivenBack ["_law_house_here"]
  law : Gd K mg "law" sLaw ["_law_script"]
  gPs : mg "perform_steps" = some (.ref perform.f)
  kFACTORS : ∃ t, mg "FACTORS" = some (.int 3 t)
  kMODULUS : ∃ t, mg "MODULUS" = some (.int 1000000000 t)
  kCELLS : ∃ t, mg "CELLS" = some (.int 60 t)
  kINPUTS : ∃ t, mg "INPUTS" = some (.int 60 t)
  kSTEPS : ∃ t, mg "STEPS" = some (.int 20000 t)
  kMOST : ∃ t, mg "MOST" = some (.int 200 t)
  zlen : mg "len" = none
  zisinstance : mg "isinstance" = none
  zint : mg "int" = none
  zbool : mg "bool" = none
  ztuple : mg "tuple" = none
  zlist : mg "list" = none
  zstr : mg "str" = none
  zrange : mg "range" = none
  zzip : mg "zip" = none
  zenumerate : mg "enumerate" = none
  zany : mg "any" = none
  zmin : mg "min" = none
  zmax : mg "max" = none
end Bk
namespace Bk
open PySem PySem.Spec PyProof.Rows L2
/-! ### the mathematics: inverses modulo m -/
def HasInv (n m : Int) : Prop := ∃ r : Int, (n * r) % m = 1
noncomputable def invZ (n m : Int) : Int := Classical.epsilon fun r => 0 ≤ r ∧ r < m ∧ (n * r) % m = 1
theorem inv_reduce {n m r : Int} (hm : 1 < m) (h : (n * r) % m = 1) : 0 ≤ r % m ∧ r % m < m ∧ (n * (r % m)) % m = 1 := by
  refine ⟨Int.emod_nonneg _ (by omega), Int.emod_lt_of_pos _ (by omega), ?_⟩
  rw [Int.mul_emod, Int.emod_emod, ← Int.mul_emod]
  exact h
theorem invZ_spec {n m : Int} (hm : 1 < m) (h : HasInv n m) : 0 ≤ invZ n m ∧ invZ n m < m ∧ (n * invZ n m) % m = 1 := by
  obtain ⟨r, hr⟩ := h
  exact Classical.epsilon_spec (p := fun r => 0 ≤ r ∧ r < m ∧ (n * r) % m = 1) ⟨_, inv_reduce hm hr⟩
theorem inv_unique {n m r q : Int} (hr0 : 0 ≤ r) (hr : r < m) (hq0 : 0 ≤ q) (hq : q < m) (h1 : (n * r) % m = 1) (h2 : (n * q) % m = 1) : r = q := by
  have e1 : (r * (n * q)) % m = r % m := by
    rw [Int.mul_emod, h2, Int.mul_one, Int.emod_emod]
  have e2 : (q * (n * r)) % m = q % m := by
    rw [Int.mul_emod, h1, Int.mul_one, Int.emod_emod]
  have e3 : r * (n * q) = q * (n * r) := by
    rw [← Int.mul_assoc, ← Int.mul_assoc, Int.mul_comm r n, Int.mul_comm q n, Int.mul_assoc, Int.mul_assoc, Int.mul_comm r q]
  rw [e3, e2] at e1
  rw [Int.emod_eq_of_lt hr0 hr, Int.emod_eq_of_lt hq0 hq] at e1
  exact e1.symm
theorem invZ_eq {n m r : Int} (hm : 1 < m) (h0 : 0 ≤ r) (h1 : r < m) (h : (n * r) % m = 1) : invZ n m = r := by
  obtain ⟨a, b, c⟩ := invZ_spec hm ⟨r, h⟩
  exact inv_unique a b h0 h1 c h
/-- the extended Euclid's invariant -/
structure Eu (n m rest other mine yours : Int) : Prop where
  r0 : 0 ≤ rest
  rm : rest ≤ m
  o0 : 0 ≤ other
  om : other ≤ m
  dr : m ∣ rest - mine * n
  do_ : m ∣ other - yours * n
  cd : ∀ d : Int, d ∣ rest → d ∣ other → d ∣ n ∧ d ∣ m
theorem Eu.start {n m : Int} (hm : 0 < m) : Eu n m (n % m) m 1 0 where
  r0 := Int.emod_nonneg _ (by omega)
  rm := Int.le_of_lt (Int.emod_lt_of_pos _ hm)
  o0 := Int.le_of_lt hm
  om := Int.le_refl _
  dr := ⟨-(n / m), by have := Int.emod_add_mul_ediv n m; rw [Int.one_mul, Int.mul_neg]; omega⟩
  do_ := ⟨1, by rw [Int.zero_mul]; omega⟩
  cd := fun d h1 h2 => ⟨by
    have e : n = n % m + m * (n / m) := (Int.emod_add_mul_ediv n m).symm
    rw [e]
    exact Int.dvd_add h1 (Int.dvd_trans h2 (Int.dvd_mul_right _ _)), h2⟩
theorem Eu.turn {n m a b x y : Int} (E : Eu n m a b x y) (hb : 0 < b) : Eu n m b (a - a / b * b) y (x - a / b * y) ∧ (a - a / b * b).toNat < b.toNat := by
  have e : a - a / b * b = a % b := by
    have := Int.emod_add_mul_ediv a b
    rw [Int.mul_comm (a / b) b]
    omega
  have h0 : 0 ≤ a % b := Int.emod_nonneg _ (by omega)
  have h1 : a % b < b := Int.emod_lt_of_pos _ hb
  refine ⟨⟨E.o0, E.om, by omega, by have := E.om; omega, E.do_, ?_, fun d k1 k2 => ?_⟩, by omega⟩
  · have q : a - a / b * b - (x - a / b * y) * n = (a - x * n) - a / b * (b - y * n) := by
      rw [Int.sub_mul, Int.mul_sub, Int.mul_assoc]
      omega
    rw [q]
    exact Int.dvd_sub E.dr (Int.dvd_trans E.do_ (Int.dvd_mul_left _ _))
  · refine E.cd d ?_ k1
    have q : a = (a - a / b * b) + a / b * b := by omega
    rw [q]
    exact Int.dvd_add k2 (Int.dvd_trans k1 (Int.dvd_mul_left _ _))
theorem Eu.one {n m x y : Int} (hm : 1 < m) (E : Eu n m 1 0 x y) : (n * (x % m)) % m = 1 := by
  have h : (n * x) % m = 1 := by
    obtain ⟨c, hc⟩ := E.dr
    have e : n * x = 1 + m * (-c) := by rw [Int.mul_neg, Int.mul_comm n x]; omega
    rw [e, Int.add_mul_emod_self_left, Int.emod_eq_of_lt (by omega) hm]
  exact (inv_reduce hm h).2.2
theorem dvd_one_nat {a : Int} (h0 : 0 ≤ a) (h : a ∣ 1) : a = 1 := Int.eq_one_of_dvd_one h0 h
theorem Eu.not_one {n m a x y : Int} (E : Eu n m a 0 x y) (ha : a ≠ 1) : ¬ HasInv n m := by
  rintro ⟨r, hr⟩
  obtain ⟨h1, h2⟩ := E.cd a (Int.dvd_refl _) (Int.dvd_zero _)
  refine ha (dvd_one_nat E.r0 ?_)
  have e : (1 : Int) = n * r - m * (n * r / m) := by
    have := Int.emod_add_mul_ediv (n * r) m
    omega
  rw [e]
  exact Int.dvd_sub (Int.dvd_trans h1 (Int.dvd_mul_right _ _)) (Int.dvd_trans h2 (Int.dvd_mul_right _ _))
/-! ### the weights, the interpolation -/
def abv (k : Nat) (p x i : Int) : Int := (List.range k).foldl (fun (a : Int) (j : Nat) => if (j : Int) ≠ i then a * (x - j) % p else a) 1
def blw (k : Nat) (p i : Int) : Int := (List.range k).foldl (fun (a : Int) (j : Nat) => if (j : Int) ≠ i then a * (i - j) % p else a) 1
noncomputable def wt (k : Nat) (p x : Int) (i : Nat) : Int := abv k p x i * invZ (blw k p i) p % p
noncomputable def wts (k : Nat) (p x : Int) : List Int := (List.range k).map fun i => wt k p x i
/-- a product sum, as it is added up -/
def dot (xs ys : List Int) : Int := (List.zip xs ys).foldl (fun a q => a + q.1 * q.2) 0
noncomputable def itpW (tb : List (List Int)) (p : Int) (rs cs : List Int) : Int := (List.zip tb rs).foldl (fun a q => (a + q.2 * dot q.1 cs) % p) 0
noncomputable def itp (tb : List (List Int)) (p x y : Int) : Int :=
  if 0 ≤ x ∧ x < tb.length ∧ 0 ≤ y ∧ y < tb.length then ((tb.getD x.toNat []).getD y.toNat 0) % p else itpW tb p (wts tb.length p x) (wts tb.length p y)
theorem foldl_range_succ {α : Type} (f : α → Nat → α) (a : α) (n : Nat) : (List.range (n + 1)).foldl f a = f ((List.range n).foldl f a) n := by
  rw [List.range_succ, List.foldl_append]
  rfl
theorem abv_nn {p x i : Int} (hp : 1 < p) : ∀ k : Nat, 0 ≤ abv k p x i ∧ abv k p x i < p
  | 0 => ⟨by show (0 : Int) ≤ 1; omega, by show (1 : Int) < p; omega⟩
  | k + 1 => by
    have ih := abv_nn (x := x) (i := i) hp k
    unfold abv at ih ⊢
    rw [foldl_range_succ]
    by_cases c : (k : Int) ≠ i
    · rw [if_pos c]
      exact ⟨Int.emod_nonneg _ (by omega), Int.emod_lt_of_pos _ (by omega)⟩
    · rw [if_neg c]
      exact ih
theorem blw_nn {p i : Int} (hp : 1 < p) : ∀ k : Nat, 0 ≤ blw k p i ∧ blw k p i < p
  | 0 => ⟨by show (0 : Int) ≤ 1; omega, by show (1 : Int) < p; omega⟩
  | k + 1 => by
    have ih := blw_nn (i := i) hp k
    unfold blw at ih ⊢
    rw [foldl_range_succ]
    by_cases c : (k : Int) ≠ i
    · rw [if_pos c]
      exact ⟨Int.emod_nonneg _ (by omega), Int.emod_lt_of_pos _ (by omega)⟩
    · rw [if_neg c]
      exact ih
/-- a prime: no divisor from 2 on below it -/
def Pr (p : Int) : Prop := 2 ≤ p ∧ ∀ k : Nat, 2 ≤ k → (k : Int) < p → p % (k : Int) ≠ 0
theorem hasInv_one {p : Int} (hp : 1 < p) : HasInv 1 p := ⟨1, by rw [Int.one_mul, Int.emod_eq_of_lt (by omega) hp]⟩
theorem hasInv_last {p : Int} (hp : 1 < p) : HasInv (p - 1) p := ⟨p - 1, by
  have e : (p - 1) * (p - 1) = 1 + p * (p - 2) := by
    have e1 := Int.mul_sub p p 2
    have e2 := Int.sub_mul p 1 (p - 1)
    have e3 := Int.mul_sub p p 1
    omega
  rw [e, Int.add_mul_emod_self_left, Int.emod_eq_of_lt (by omega) hp]⟩
theorem hasInv_two {p : Int} (hp : 2 < p) (ho : p % 2 ≠ 0) : HasInv 2 p := ⟨(p + 1) / 2, by
  have e : 2 * ((p + 1) / 2) = 1 + p * 1 := by omega
  rw [e, Int.add_mul_emod_self_left, Int.emod_eq_of_lt (by omega) (by omega)]⟩
theorem blw_inv {p : Int} (hp : Pr p) {k i : Nat} (hk : k ≤ 3) (hkp : (k : Int) ≤ p) (hi : i < k) : HasInv (blw k p i) p := by
  obtain ⟨h2, hp⟩ := hp
  have m1 : (-1 : Int) % p = p - 1 := by
    have e : (-1 : Int) = (p - 1) + p * (-1) := by omega
    rw [e, Int.add_mul_emod_self_left]
    exact Int.emod_eq_of_lt (by omega) (by omega)
  have m2 : (1 : Int) % p = 1 := Int.emod_eq_of_lt (by omega) (by omega)
  match k, i, hk, hkp, hi with
  | 1, 0, _, _, _ => exact hasInv_one (by omega)
  | 2, 0, _, _, _ =>
    have e : blw 2 p (0 : Nat) = p - 1 := by
      show (1 * ((0 : Int) - 1)) % p = p - 1
      rw [show (1 * ((0 : Int) - 1)) = -1 by omega, m1]
    rw [e]
    exact hasInv_last (by omega)
  | 2, 1, _, _, _ =>
    have e : blw 2 p (1 : Nat) = 1 := by
      show (1 * ((1 : Int) - 0)) % p = 1
      rw [show (1 * ((1 : Int) - 0)) = 1 by omega, m2]
    rw [e]
    exact hasInv_one (by omega)
  | 3, 0, _, h3, _ =>
    have e : blw 3 p (0 : Nat) = 2 := by
      show (1 * ((0 : Int) - 1) % p * (0 - 2)) % p = 2
      rw [show (1 * ((0 : Int) - 1)) = -1 by omega, m1, show (p - 1) * (0 - 2) = 2 + p * (-2) by omega, Int.add_mul_emod_self_left]
      exact Int.emod_eq_of_lt (by omega) (by omega)
    rw [e]
    exact hasInv_two (by omega) (hp 2 (by omega) (by omega))
  | 3, 1, _, h3, _ =>
    have e : blw 3 p (1 : Nat) = p - 1 := by
      show (1 * ((1 : Int) - 0) % p * (1 - 2)) % p = p - 1
      rw [show (1 * ((1 : Int) - 0)) = 1 by omega, m2, show (1 : Int) * (1 - 2) = -1 by omega, m1]
    rw [e]
    exact hasInv_last (by omega)
  | 3, 2, _, h3, _ =>
    have e : blw 3 p (2 : Nat) = 2 := by
      show (1 * ((2 : Int) - 0) % p * (2 - 1)) % p = 2
      have m3 : (2 : Int) % p = 2 := Int.emod_eq_of_lt (by omega) (by omega)
      rw [show (1 * ((2 : Int) - 0)) = 2 by omega, m3, show (2 : Int) * (2 - 1) = 2 by omega, m3]
    rw [e]
    exact hasInv_two (by omega) (hp 2 (by omega) (by omega))
  | n + 4, _, h, _, _ => exact absurd h (by omega)
/-! ### zip of a tuple and a list, over the general walk of two drawn things (KE.GoesNew) -/
/-- the tuple at a and the list at b as they stand at each turn, the items in new pairs; it ends with the tuple -/
def ItzM (K : PySem.W.Frag) (a b : Addr) : It :=
  ⟨fun i H => ∃ (xs ys : List V), SqT K H a xs ∧ SqL K H b ys ∧ xs.length = ys.length ∧ i < xs.length,
    fun i H v H' => ∃ T x y, v = .ref T ∧ H T = none ∧ H' = upd H T (.tup [x, y]) ∧ (∀ xs, SqT K H a xs → xs[i]? = some x) ∧ ∀ ys, SqL K H b ys → ys[i]? = some y,
    fun i H => ∃ xs ys : List V, SqT K H a xs ∧ SqL K H b ys ∧ xs.length = ys.length ∧ i = xs.length⟩
structure Ap5 (z TI TO i1 i2 a b : Addr) : Prop where
  sep : ZipSep2 z TI TO i1 i2 [i1, a] [i2, b]
  ai : a ≠ i1
  bi : b ≠ i2
theorem mem5 {z TI TO i1 i2 c : Addr} (h : c ∈ [z, TI, TO, i1, i2]) : c = z ∨ c = TI ∨ c = TO ∨ c = i1 ∨ c = i2 := by
  simpa using h
theorem not4 {z TI TO i1 i2 c : Addr} (h : c ∉ [z, TI, TO, i1, i2]) : c ∉ [z, TO, i1, i2] := fun q => h (by
  have e : c = z ∨ c = TO ∨ c = i1 ∨ c = i2 := by simpa using q
  rcases e with e | e | e | e <;> simp [e])
theorem turn_zipM {P : Program} {w : World} {K : PySem.W.Frag} {elts : List Expr} {kk : Nat} {tpos : Pos} {a b z TI TO i1 i2 : Addr} (D : Ap5 z TI TO i1 i2 a b) :
    Turn P w K (.Tuple elts kk tpos) (ItzM K a b) [z, TI, TO, i1, i2] z
      (fun i h => IsZip h z TI TO .none ∧ IsTupOf2 h TI (.ref i1) (.ref i2) ∧ (∃ x y, IsTupOf2 h TO x y) ∧ h.IsTupleIter i1 a i ∧ h.IsListIter i2 b i) := by
  have lt5 : ∀ (i : Nat) (h : Heap), (IsZip h z TI TO .none ∧ IsTupOf2 h TI (.ref i1) (.ref i2) ∧ (∃ x y, IsTupOf2 h TO x y) ∧ h.IsTupleIter i1 a i ∧ h.IsListIter i2 b i) →
      ∀ c ∈ [z, TI, TO, i1, i2], ∃ o, h.get? c = some o ∧ ∀ v, o.data ≠ .cell v := by
    rintro i h ⟨g1, g2, ⟨x, y, g3⟩, ⟨o4, g4, _, d4⟩, ⟨o5, g5, _, d5⟩⟩ c hc
    rcases mem5 hc with q | q | q | q | q <;> subst q
    · exact ⟨_, g1, fun v q => nomatch q⟩
    · exact ⟨_, g2, fun v q => nomatch q⟩
    · exact ⟨_, g3, fun v q => nomatch q⟩
    · exact ⟨o4, g4, fun v q => by rw [d4] at q; cases q⟩
    · exact ⟨o5, g5, fun v q => by rw [d5] at q; cases q⟩
  refine { mem := by simp, obj := lt5, keep := ?_, item := ?_, done := ?_, self := ?_ }
  · rintro i h h' ⟨g1, g2, ⟨x, y, g3⟩, g4, g5⟩ kk
    exact ⟨kk z (by simp) _ g1, kk TI (by simp) _ g2, ⟨x, y, kk TO (by simp) _ g3⟩, g4.at fun o q => kk i1 (by simp) o q, g5.at fun o q => kk i2 (by simp) o q⟩
  · intro X hP hw hK hc i pins s σ H E I hf st hg
    subst hP hw hK
    obtain ⟨xs, ys, qx, qy, hl, hi⟩ := hg
    obtain ⟨us, rv, pu, _⟩ := I.tuple qx
    obtain ⟨ws, rw_, pw_, _⟩ := I.list qy
    have lu : us.length = xs.length := rv.length.symm
    have lw : ws.length = ys.length := rw_.length.symm
    have G := GoesN.zip2 (prog := X.prog) (w := X.w) (A := X.A) (elts := elts) (x1 := kk) (pos := tpos) D.sep (Draws.tuple (show X.A.in1.handled = none from I.ok.hd hc) i1 a D.ai us.toArray) (Draws.list (show X.A.in1.handled = none from I.ok.hd hc) i2 b D.bi ws.toArray)
    have hn : i < min us.toArray.size ws.toArray.size := by
      simp only [List.size_toArray]
      omega
    refine wpAny_mono (G.goes i s (fun v s₂ => ∃ x H', Inv X pins σ H' s₂ ∧ RelV x v ∧ (ItzM X.K a b).yld i H x H' ∧
      (IsZip s₂.heap z TI TO .none ∧ IsTupOf2 s₂.heap TI (.ref i1) (.ref i2) ∧ (∃ x y, IsTupOf2 s₂.heap TO x y) ∧ s₂.heap.IsTupleIter i1 a (i + 1) ∧ s₂.heap.IsListIter i2 b (i + 1)) ∧ ∀ b ∈ [z, TI, TO, i1, i2], H' b = none) E hn
      ⟨st.1, st.2.1, st.2.2.1, ⟨st.2.2.2.1, pu⟩, st.2.2.2.2, pw_.isList⟩ ?_) (fun r s1 q => q) (fun _ _ q => q)
    rintro v h' tk ⟨T, x, y, rfl, hT, hx, hy, ⟨oT, gT, cT, nT, dT⟩⟩ ⟨g1, g2, g3, ⟨g4, _⟩, ⟨g5, _⟩⟩ hk _
    have hx' : us[i]? = some x := by simpa using hx
    have hy' : ws[i]? = some y := by simpa using hy
    have ix : i < xs.length := hi
    have iy : i < ys.length := by omega
    obtain ⟨u, hu, ru⟩ := rv.get (List.getElem?_eq_getElem ix)
    obtain ⟨v, hv, rv'⟩ := rw_.get (List.getElem?_eq_getElem iy)
    have e1 : u = x := Option.some.inj (hu.symm.trans hx')
    have e2 : v = y := Option.some.inj (hv.symm.trans hy')
    subst e1 e2
    have new : ObjOk X.prog X.w (upd H T (.tup [xs[i], ys[i]])) h' T (.tup [xs[i], ys[i]]) :=
      ⟨by show 2 ≤ sizeLine; decide, [u, v], .cons ru (.cons rv' .nil), ⟨oT, gT, cT, nT, dT⟩⟩
    refine ⟨.ref T, _, I.turnedNew (t' := tk) (ch := [z, TI, TO, i1, i2]) (fun c o hcn q => hk c o (not4 hcn) q) hf hT new, rfl,
      ⟨T, xs[i], ys[i], rfl, I.hok.fresh hT, rfl, fun l hl => by rw [I.tuple_inj hl qx]; exact List.getElem?_eq_getElem ix, fun l hl => by rw [I.list_inj hl qy]; exact List.getElem?_eq_getElem iy⟩, ⟨g1, g2, g3, g4, g5⟩, fun c hcm => ?_⟩
    obtain ⟨o, ho, _⟩ := lt5 i s.heap st c hcm
    rw [upd_ne (Nat.ne_of_lt (Nat.lt_of_lt_of_le (Heap.lt_size ho) hT))]
    exact (hf c hcm).1
  · intro X hP hw hK hc i pins s σ H E I hf st hg
    subst hP hw hK
    obtain ⟨xs, ys, qx, qy, hl, rfl⟩ := hg
    obtain ⟨us, rv, pu, _⟩ := I.tuple qx
    obtain ⟨ws, rw_, pw_, _⟩ := I.list qy
    have lu : us.length = xs.length := rv.length.symm
    have lw : ws.length = ys.length := rw_.length.symm
    have G := GoesN.zip2 (prog := X.prog) (w := X.w) (A := X.A) (elts := elts) (x1 := kk) (pos := tpos) D.sep (Draws.tuple (show X.A.in1.handled = none from I.ok.hd hc) i1 a D.ai us.toArray) (Draws.list (show X.A.in1.handled = none from I.ok.hd hc) i2 b D.bi ws.toArray)
    have hn : min us.toArray.size ws.toArray.size = xs.length := by
      simp only [List.size_toArray]
      omega
    rw [hn] at G
    refine wpAny_mono (G.stops s (fun s₁ => Inv X pins σ H s₁) E ⟨st.1, st.2.1, st.2.2.1, ⟨st.2.2.2.1, pu⟩, st.2.2.2.2, pw_.isList⟩ fun h' tk hk _ => I.turnedL (t' := tk) (ch := [z, TI, TO, i1, i2]) (fun c o hcn q => hk c o (not4 hcn) q) hf) (fun r s1 q => q) (fun _ _ q => q)
  · exact fun A i s Q E st h => wpAny_pyIter_zip st.1 h
def iZipM (K : PySem.W.Frag) (ta : TA) : TI := fun σ H R => ta σ H fun vs H1 => ∃ a b xs ys, vs = [.ref a, .ref b] ∧ SqT K H1 a xs ∧ SqL K H1 b ys ∧ R (ItzM K a b) H1
theorem pi_zipM {X : Cx} {e e2 : Expr} {ta : TA} {p pos tpos : Pos} {elts : List Expr} {kk : Nat} (hg : Gl X "zip") (hm : X.mg "zip" = none) (ha : PA X [e, e2] ta)
    (hs : starEach [e, e2] X.env = (false, eval e X.env) :: starEach [e2] X.env := by rfl) (hpl : (backTo pos (starEach [e2] X.env)).any (·.1) = false := by rfl) :
    PI X (.Tuple elts kk tpos) (.Call (.Name "zip" p) [e, e2] [] pos) (iZipM X.K ta) := by
  refine ⟨fun pins s σ H R I h => Call_ (ld_blt I hg hm PyProof.Rows.boot_zip (PyProof.Rows.callWith_type1 (thn (ha.run pos pins s σ H _ I h) fun us s1 ⟨vs, H1, I1, r1, a, b, xs, ys, ev, qx, qy, q⟩ => ?_) hs hpl))⟩
  subst ev
  cases r1 with
  | cons ra rr =>
    cases rr with
    | cons rb rr =>
      cases rr; cases ra; cases rb
      obtain ⟨us, rv, pu, _⟩ := I1.tuple qx
      obtain ⟨ws, rw_, pw_, _⟩ := I1.list qy
      have la : a < s1.heap.objs.size := pu.lt
      have lb : b < s1.heap.objs.size := pw_.lt
      refine zip_begins2 (begins_tuple a us.toArray) (begins_list b ws.toArray) pu pw_.isList fun h' g1 g2 g3 g4 g5 hsz hk => wpAny_pyIter_zip g1 ?_
      have D : Ap5 (s1.heap.objs.size + 4) (s1.heap.objs.size + 2) (s1.heap.objs.size + 3) s1.heap.objs.size (s1.heap.objs.size + 1) a b :=
        ⟨zip_sep2 (fp1 := [a]) (fp2 := [b]) (fun c hc => by rw [List.mem_singleton.mp hc]; exact la) (fun c hc => by rw [List.mem_singleton.mp hc]; exact lb), Nat.ne_of_lt la, Nat.ne_of_lt (Nat.lt_succ_of_lt lb)⟩
      have i1 : h'.IsTupleIter s1.heap.objs.size a 0 := ⟨_, g4, rfl, rfl⟩
      have i2 : h'.IsListIter (s1.heap.objs.size + 1) b 0 := ⟨_, g5, rfl, rfl⟩
      refine ⟨s1.heap.objs.size + 4, _, _, _, H1, rfl, I1.kept (t' := s1.toks) hk, turn_zipM D, ⟨g1, g2, ⟨_, _, g3⟩, i1, i2⟩, fun c hc => ?_, q⟩
      have hle : s1.heap.objs.size ≤ c := by
        rcases mem5 hc with z | z | z | z | z <;> rw [z]
        · exact Nat.le_add_right _ 4
        · exact Nat.le_add_right _ 2
        · exact Nat.le_add_right _ 3
        · exact Nat.le_refl _
        · exact Nat.le_add_right _ 1
      exact I1.fpOk hle (I1.hok.fresh hle)
theorem walk_zipM {K : PySem.W.Frag} {a b : Addr} {xs ys : List V} (hl : xs.length = ys.length) : Walk (ItzM K a b) xs.length (fun H => SqT K H a xs ∧ SqL K H b ys) (YPair (fun i => xs[i]?) (fun i => ys[i]?)) :=
  ⟨fun _ _ hi q => ⟨xs, ys, q.1, q.2, hl, hi⟩, fun _ q => ⟨xs, ys, q.1, q.2, hl, rfl⟩, fun i H v H' _ q ⟨T, x, y, h1, h2, h3, h4, h5⟩ => ⟨T, x, y, h1, h2, h3, h4 xs q.1, h5 ys q.2⟩⟩
/-! ### small words -/
theorem ifb {b : Bool} {A B : Prop} (h1 : b = true → A) (h2 : b = false → B) : if b = true then A else B := by
  cases b
  · rw [if_neg Bool.false_ne_true]; exact h2 rfl
  · rw [if_pos rfl]; exact h1 rfl
theorem ifT {b : Bool} {A B : Prop} (hb : b = true) (h : A) : if b = true then A else B := by
  rw [if_pos hb]; exact h
theorem ifF {b : Bool} {A B : Prop} (hb : b = false) (h : B) : if b = true then A else B := by
  rw [hb]; exact iteF h
/-! ### a reading of one's own in a rule's place -/
section
variable {X : Cx}
theorem _root_.L2.PT.weak {e : Expr} {t t' : TT} (h : PT X e t) (q : ∀ σ H Q, t' σ H Q → t σ H Q) : PT X e t' := ⟨fun pins s σ H Q I z => h.run pins s σ H Q I (q _ _ _ z)⟩
theorem _root_.L2.PE.weak {e : Expr} {t t' : TE} (h : PE X e t) (q : ∀ σ H Q, t' σ H Q → t σ H Q) : PE X e t' := ⟨fun pins s σ H Q I z => h.run pins s σ H Q I (q _ _ _ z)⟩
theorem _root_.L2.PSs.weak {st : List Stmt} {t t' : TS} (h : PSs X st t) (q : ∀ D σ H, t' D σ H → t D σ H) : PSs X st t' := ⟨fun pins s σ H D I z => h.run pins s σ H D I (q _ _ _ z)⟩
theorem _root_.L2.PS.weak {st : Stmt} {t t' : TS} (h : PS X st t) (q : ∀ D σ H, t' D σ H → t D σ H) : PS X st t' := ⟨fun pins s σ H D I z => h.run pins s σ H D I (q _ _ _ z)⟩
end
/-! ### frames -/
theorem _root_.L2.Same.new {H : Hp} {p : Addr} {o : HO} (h : H p = none) : Same H (upd H p o) := fun b u e => by
  rw [upd_ne (ne_of_none e h)]; exact e
theorem _root_.L2.Same.newer {H H1 : Hp} {p : Addr} {o : HO} (s : Same H H1) (h : H1 p = none) : Same H (upd H1 p o) := s.trans (Same.new h)
/-- a new object rewritten -/
theorem _root_.L2.Same.rewr {H H1 : Hp} {p : Addr} {o : HO} (s : Same H H1) (h : H p = none) : Same H (upd H1 p o) := fun b u e => by
  rw [upd_ne (ne_of_none e h)]; exact s b u e
section
variable {P : Program} {w : World} {K : PySem.W.Frag} {mg : Str → Option Value} {base : Heap}
/-! ### numbers.py: is_integer, is_number -/
def spIsInteger : Sp := fun vs H Q _ => ∃ i : Int, vs = [.int i] ∧ Q (.bl true) H
abbrev N_isInteger : List Str := ["value"]
theorem sc_isInteger : FnScope N_isInteger ["value"] (defScope sIsInteger) := ⟨rfl, rfl, rfl, by decide +kernel, rfl, by decide +kernel, by decide +kernel⟩
theorem ok_isInteger (T : Top K mg) : FnOk P w K mg base CX0 1 T.isInteger.f T.isInteger.fd ["value"] spIsInteger := by
  refine T.isInteger.F.ok sc_isInteger (fun vs H Q E h => ?_) (fun cdv A outer s H vs Q E hr h => ?_)
  · obtain ⟨i, rfl, _⟩ := h
    rfl
  · obtain ⟨i, rfl, k⟩ := h
    refine ⟨_, (pss_one (ps_ret (pe_and (pe_callB call_isi rfl T.zisinstance (by decide +kernel) (pa_cons (pv 0) (pa_cons (pe_bltn (v := .ty "int") rfl T.zint (by decide +kernel) rfl) pa_nil))) (pe_one (pe_not (pe_callB call_isi rfl T.zisinstance (by decide +kernel) (pa_cons (pv 0) (pa_cons (pe_bltn (v := .ty "bool") rfl T.zbool (by decide +kernel) rfl) pa_nil)))))))), ?_⟩
    refine ⟨_, rfl, _, _, _, _, true, rfl, .ty "int", .base (.int i), kit_ty (by decide +kernel), true, rfl, iteT ?_⟩
    refine ⟨_, rfl, _, _, _, _, false, rfl, .ty "bool", .base (.int i), kit_ty (by decide +kernel), false, rfl, ?_⟩
    exact k
def spIsNumber : Sp := fun vs H Q _ => ∃ i m : Int, vs = [.int i, .int m] ∧ 0 ≤ i ∧ i < m ∧ Q (.bl true) H
abbrev N_isNumber : List Str := ["value", "modulus"]
theorem sc_isNumber : FnScope N_isNumber ["value", "modulus"] (defScope sIsNumber) := ⟨rfl, rfl, rfl, by decide +kernel, rfl, by decide +kernel, by decide +kernel⟩
theorem ok_isNumber (T : Top K mg) : FnOk P w K mg base CX0 2 T.isNumber.f T.isNumber.fd ["value", "modulus"] spIsNumber := by
  refine T.isNumber.F.ok sc_isNumber (fun vs H Q E h => ?_) (fun cdv A outer s H vs Q E hr h => ?_)
  · obtain ⟨i, m, rfl, _⟩ := h
    rfl
  · obtain ⟨i, m, rfl, h0, h1, k⟩ := h
    refine ⟨_, (pss_one (ps_ret (pe_and (pe_call (ok_isInteger T) (hr.mono (by decide)) rfl T.isInteger.g T.isInteger.kp T.isInteger.b .nil pass0 (pa_cons (pv 0) pa_nil)) (pe_one (pe_chain op_le op_lt pe_int (pv 0) (pv 1)))))), ?_⟩
    refine ⟨_, rfl, i, rfl, true, rfl, iteT ?_⟩
    refine ⟨_, rfl, 0, i, rfl, rfl, _, rfl, ifT (decide_eq_true h0) ⟨_, rfl, i, m, rfl, rfl, ?_⟩⟩
    show Q (.bl (decide (i < m))) H
    rw [decide_eq_true h1]
    exact k
/-! ### numbers.py: is_prime -/
def spIsPrime : Sp := fun vs H Q _ => ∃ n : Int, vs = [.int n] ∧ Pr n ∧ n ≤ 1000000000 ∧ Q (.bl true) H
abbrev N_isPrime : List Str := ["n", "divisor"]
theorem sc_isPrime : FnScope N_isPrime ["n"] (defScope sIsPrime) := ⟨rfl, rfl, rfl, by decide +kernel, rfl, by decide +kernel, by decide +kernel⟩
theorem ok_isPrime (T : Top K mg) : FnOk P w K mg base CX0 1 T.isPrime.f T.isPrime.fd ["n"] spIsPrime := by
  refine T.isPrime.F.ok sc_isPrime (fun vs H Q E h => ?_) (fun cdv A outer s H vs Q E hr h => ?_)
  · obtain ⟨i, rfl, _⟩ := h
    rfl
  · obtain ⟨n, rfl, ⟨h2, hp⟩, hn, k⟩ := h
    refine ⟨_, (pss_cons (ps_if (pt_cmpR op_lt (pv 0) pe_int (nomark _)) (pss_one (ps_ret pe_bl)) pss_nil)
      (pss_cons (ps_if (pt_cmpR op_eq (pe_op op_mod (pv 0) pe_int) pe_int (nomark _)) (pss_one (ps_ret (pe_cmpR op_eq (pv 0) pe_int (nomark _)))) pss_nil)
      (pss_cons (ps_set (i := 1) sc_isPrime.nd rfl (Or.inl rfl) pe_int)
      (pss_cons (ps_while PassesOwn.never (pt_cmpR op_le (pe_op op_mul (pv 1) (pv 1)) (pv 0) (nomark _)) (pss_cons (ps_if (pt_cmpR op_eq (pe_op op_mod (pv 0) (pv 1)) pe_int (nomark _)) (pss_one (ps_ret pe_bl)) pss_nil)
          (pss_one (ps_aug (i := 1) sc_isPrime.nd rfl (Or.inl rfl) pe_int ip_add))))
      (pss_one (ps_ret pe_bl)))))), ?_⟩
    refine ⟨_, rfl, n, 2, rfl, rfl, _, rfl, ifF (decide_eq_false (by omega)) ?_⟩
    refine ⟨_, rfl, n, 2, rfl, rfl, (by show (0 : Int) < 2; decide), rfl, _, rfl, ifb (fun h1 => ?_) fun h1 => ?_⟩
    · have e0 : n % 2 = 0 := V.int.inj (of_decide_eq_true h1)
      have e : n = 2 := by
        by_cases c : n = 2
        · exact c
        · exact absurd e0 (hp 2 (by omega) (by omega))
      subst e
      exact ⟨_, rfl, rfl, k⟩
    · refine while_by (fun σ H' => H' = H ∧ ∃ d : Nat, 3 ≤ d ∧ (d : Int) ≤ n + 2 ∧ σ = [some (.int n), some (.int (d : Int))]) (fun σ _ => match σ with | [_, some (.int d)] => (n + 2 - d).toNat | _ => 0) ⟨rfl, 3, by omega, by omega, rfl⟩ ?_ ?_
      · rintro σ H' ⟨rfl, d, hd, hd2, rfl⟩
        refine ⟨_, rfl, _, rfl, d, d, rfl, rfl, .inl ⟨by omega, by omega⟩, _, rfl, _, n, rfl, rfl, _, rfl, ifb (fun h3 => ?_) fun h3 => k⟩
        have hdd : (d : Int) * d ≤ n := of_decide_eq_true h3
        have hdn : (d : Int) < n := by
          have : (d : Int) * 2 ≤ d * d := Int.mul_le_mul_of_nonneg_left (by omega) (by omega)
          omega
        refine ⟨_, rfl, _, rfl, n, d, rfl, rfl, (by show (0 : Int) < (d : Int); omega), rfl, _, rfl, ifF (decide_eq_false fun z => hp d (by omega) hdn (V.int.inj z)) ?_⟩
        refine ⟨_, rfl, d, 2, rfl, rfl, ⟨rfl, d + 2, by omega, by omega, rfl⟩, ?_⟩
        show (n + 2 - ((d : Int) + 2)).toNat < (n + 2 - (d : Int)).toNat
        omega
      · rintro σ H' Q Q' hQ ⟨x, hx, y, hy, i, j, rfl, rfl, hc, z, hz, i', j', e1, e2, b, hb, q⟩
        exact ⟨_, hx, _, hy, i, j, rfl, rfl, hc, z, hz, i', j', e1, e2, b, hb, hQ _ _ q⟩
/-! ### numbers.py: inverse_of -/
def spInverseOf : Sp := fun vs H Q _ => ∃ n m : Int, vs = [.int n, .int m] ∧ 2 ≤ m ∧ m ≤ 1000000000 ∧ (∀ r H', 0 ≤ r → r < m → (n * r) % m = 1 → Same H H' → Q (.int r) H') ∧ (¬ HasInv n m → ∀ H', Same H H' → Q .non H')
abbrev N_inverseOf : List Str := ["n", "modulus", "rest", "other", "mine", "yours", "times"]
theorem sc_inverseOf : FnScope N_inverseOf ["n", "modulus"] (defScope sInverseOf) := ⟨rfl, rfl, rfl, by decide +kernel, rfl, by decide +kernel, by decide +kernel⟩
theorem ok_inverseOf (T : Top K mg) : FnOk P w K mg base CX0 1 T.inverseOf.f T.inverseOf.fd ["n", "modulus"] spInverseOf := by
  refine T.inverseOf.F.ok sc_inverseOf (fun vs H Q E h => ?_) (fun cdv A outer s H vs Q E hr h => ?_)
  · obtain ⟨n, m, rfl, _⟩ := h
    rfl
  · obtain ⟨n, m, rfl, h2, hm, kS, kN⟩ := h
    refine ⟨_, (pss_cons (ps_par (i := 2) (j := 3) rfl sc_inverseOf.nd rfl rfl (by decide) rfl rfl (pa_cons (pe_op op_mod (pv 0) (pv 1)) (pa_cons (pv 1) pa_nil)) rfl)
      (pss_cons (ps_asg (pe_tup (pa_cons pe_int (pa_cons pe_int pa_nil))) (pg_tup rfl (pgs_cons (pg_name (i := 4) sc_inverseOf.nd rfl (Or.inl rfl)) (pgs_cons (pg_name (i := 5) sc_inverseOf.nd rfl (Or.inl rfl)) pgs_nil))))
      (pss_cons (ps_while PassesOwn.never (pt_cmpR op_gt (pv 3) pe_int (nomark _)) (pss_cons (ps_set (i := 6) sc_inverseOf.nd rfl (Or.inl rfl) (pe_op op_fdiv (pv 2) (pv 3)))
          (pss_cons (ps_par (i := 2) (j := 3) rfl sc_inverseOf.nd rfl rfl (by decide) rfl rfl (pa_cons (pv 3) (pa_cons (pe_op op_sub (pv 2) (pe_op op_mul (pv 6) (pv 3))) pa_nil)) rfl)
          (pss_one (ps_par (i := 4) (j := 5) rfl sc_inverseOf.nd rfl rfl (by decide) rfl rfl (pa_cons (pv 5) (pa_cons (pe_op op_sub (pv 4) (pe_op op_mul (pv 6) (pv 5))) pa_nil)) rfl)))))
      (pss_cons (ps_if (pt_cmpR op_ne (pv 2) pe_int (nomark _)) (pss_one (ps_ret pe_non)) pss_nil)
      (pss_one (ps_ret (pe_op op_mod (pv 4) (pv 1)))))))), ?_⟩
    refine ⟨_, rfl, _, rfl, n, m, rfl, rfl, (by show (0 : Int) < m; omega), _, rfl, _, _, rfl, (by show 2 ≤ sizeLine; decide), fun pt hpt => ⟨pt, _, rfl, SqT.of upd_same, rfl, _, _, rfl, _, _, rfl, rfl, ?_⟩⟩
    refine while_by (fun σ H' => Same H H' ∧ ∃ (a b x y : Int) (tv : Option V), Eu n m a b x y ∧ σ = [some (.int n), some (.int m), some (.int a), some (.int b), some (.int x), some (.int y), tv])
      (fun σ _ => match σ with | [_, _, _, some (.int b), _, _, _] => b.toNat | _ => 0) ⟨Same.new hpt, _, _, _, _, none, Eu.start (by omega), rfl⟩ ?_ ?_
    · rintro σ H' ⟨sm, a, b, x, y, tv, Z, rfl⟩
      refine ⟨_, rfl, b, 0, rfl, rfl, _, rfl, ifb (fun h3 => ?_) fun h3 => ?_⟩
      · have hb : 0 < b := of_decide_eq_true h3
        obtain ⟨Z', ml⟩ := Z.turn hb
        have hq : a / b ≤ a := Int.ediv_le_self _ Z.r0
        have hq0 : 0 ≤ a / b := Int.ediv_nonneg Z.r0 (by omega)
        have c1 := Z.rm
        have c2 := Z.om
        refine ⟨_, rfl, _, rfl, a, b, rfl, rfl, (by show 0 < b ∧ b < 1073741824; omega), ?_⟩
        refine ⟨_, rfl, _, rfl, _, rfl, _, rfl, a / b, b, rfl, rfl, (by show (_ ∨ _); left; omega), a, a / b * b, rfl, rfl, _, _, rfl, ?_⟩
        refine ⟨_, rfl, _, rfl, _, rfl, _, rfl, a / b, y, rfl, rfl, (by show (_ ∨ _); left; omega), x, a / b * y, rfl, rfl, _, _, rfl, ?_⟩
        exact ⟨⟨sm, _, _, _, _, _, Z', rfl⟩, ml⟩
      · have hb : b = 0 := by
          have : ¬ 0 < b := of_decide_eq_false h3
          have := Z.o0
          omega
        subst hb
        refine ⟨_, rfl, rfl, _, rfl, ifb (fun h4 => ?_) fun h4 => ?_⟩
        · have ha : a ≠ 1 := fun z => by subst z; revert h4; decide
          exact kN (Z.not_one ha) _ sm
        · have ha : a = 1 := by
            by_cases c : a = 1
            · exact c
            · have : decide (V.int a = V.int 1) = false := decide_eq_false fun z => c (V.int.inj z)
              rw [this] at h4
              cases h4
          subst ha
          refine ⟨_, rfl, _, rfl, x, m, rfl, rfl, (by show (0 : Int) < m; omega), ?_⟩
          exact kS (x % m) _ (Int.emod_nonneg _ (by omega)) (Int.emod_lt_of_pos _ (by omega)) (Z.one (by omega)) sm
    · rintro σ H' Q Q' hQ ⟨a, ha, i, j, e1, e2, b, hb, q⟩
      exact ⟨a, ha, i, j, e1, e2, b, hb, hQ _ _ q⟩
/-! ### numbers.py: weights -/
def spWeights : Sp := fun vs H Q _ => ∃ (k : Nat) (p x : Int), vs = [.int k, .int p, .int x] ∧ k ≤ 3 ∧ (k : Int) ≤ p ∧ Pr p ∧ p ≤ 1000000000 ∧ ∀ l H', H l = none → Same H H' → H' l = some (.lst ((wts k p x).map V.int)) → Q (.ref l) H'
abbrev N_weights : List Str := ["size", "prime", "x", "found", "i", "above", "below", "j"]
theorem sc_weights : FnScope N_weights ["size", "prime", "x"] (defScope sWeights) := ⟨rfl, rfl, rfl, by decide +kernel, rfl, by decide +kernel, by decide +kernel⟩
theorem ok_weights (T : Top K mg) : FnOk P w K mg base CX0 2 T.weights.f T.weights.fd ["size", "prime", "x"] spWeights := by
  refine T.weights.F.ok sc_weights (fun vs H Q E h => ?_) (fun cdv A outer s H vs Q E hr h => ?_)
  · obtain ⟨k, p, x, rfl, _⟩ := h
    rfl
  · obtain ⟨k, p, x, rfl, hk, hkp, hp, hm, kk⟩ := h
    have h2 : 2 ≤ p := hp.1
    refine ⟨_, (pss_cons (ps_set (i := 3) sc_weights.nd rfl (Or.inl rfl) (pe_lst pa_nil))
      (pss_cons (ps_for PassesOwn.never rfl (pi_range1 rfl T.zrange (pa_cons (pv 0) pa_nil)) (pg_name (i := 4) sc_weights.nd rfl (Or.inl rfl)) (pss_cons (ps_asg (pe_tup (pa_cons pe_int (pa_cons pe_int pa_nil))) (pg_tup rfl (pgs_cons (pg_name (i := 5) sc_weights.nd rfl (Or.inl rfl)) (pgs_cons (pg_name (i := 6) sc_weights.nd rfl (Or.inl rfl)) pgs_nil))))
          (pss_cons (ps_for PassesOwn.never rfl (pi_range1 rfl T.zrange (pa_cons (pv 0) pa_nil)) (pg_name (i := 7) sc_weights.nd rfl (Or.inl rfl)) (pss_one (ps_if (pt_cmpR op_ne (pv 7) (pv 4) (nomark _)) (pss_cons (ps_set (i := 5) sc_weights.nd rfl (Or.inl rfl) (pe_op op_mod (pe_op op_mul (pv 5) (pe_op op_sub (pv 2) (pv 7))) (pv 1)))
                  (pss_one (ps_set (i := 6) sc_weights.nd rfl (Or.inl rfl) (pe_op op_mod (pe_op op_mul (pv 6) (pe_op op_sub (pv 4) (pv 7))) (pv 1))))) pss_nil)))
          (pss_one (ps_expr (pe_bm PySem.F.plainAttrs_list PySem.F.slot_list_append PySem.F.type_list_append mt_append (pv 3) (pa_cons (pe_op op_mod (pe_op op_mul (pv 5) (pe_call (ok_inverseOf T) (hr.mono (by decide)) rfl T.inverseOf.g T.inverseOf.kp T.inverseOf.b .nil pass0 (pa_cons (pv 6) (pa_cons (pv 1) pa_nil)))) (pv 1)) pa_nil)))))))
      (pss_one (ps_ret (pv 3))))), ?_⟩
    refine ⟨by show 0 ≤ sizeLine; decide, fun l hl => ?_⟩
    refine ⟨_, rfl, k, rfl, by omega, by omega, for_range (lo := 0) (n := k) (fun i σ H' => ∃ v4 v5 v6 v7, σ = [some (.int k), some (.int p), some (.int x), some (.ref l), v4, v5, v6, v7] ∧ Same H H' ∧ H' l = some (.lst (((List.range i).map (wt k p x)).map V.int)))
      ⟨none, none, none, none, rfl, Same.new hl, upd_same⟩ ?_ ?_⟩
    · rintro i σ H' hi ⟨v4, v5, v6, v7, rfl, sm, hL⟩
      refine ⟨by show 2 ≤ sizeLine; decide, fun pt hpt => ⟨pt, _, rfl, SqT.of upd_same, rfl, _, _, rfl, _, _, rfl, rfl, ?_⟩⟩
      have sm' : Same H (upd H' pt (.tup [.int 1, .int 1])) := sm.newer hpt
      have hL' : upd H' pt (.tup [.int 1, .int 1]) l = some (.lst (((List.range i).map (wt k p x)).map V.int)) := Same.new hpt _ _ hL
      refine ⟨_, rfl, k, rfl, by omega, by omega, for_range (lo := 0) (n := k) (fun j σ H'' => ∃ v7, σ = [some (.int k), some (.int p), some (.int x), some (.ref l), some (.int (0 + (i : Int))), some (.int (abv j p x i)), some (.int (blw j p i)), v7] ∧ H'' = upd H' pt (.tup [.int 1, .int 1]))
        ⟨v7, rfl, rfl⟩ ?_ ?_⟩
      · rintro j σ H'' hj ⟨v7, rfl, rfl⟩
        obtain ⟨a0, a1⟩ := abv_nn (x := x) (i := i) (show 1 < p by omega) j
        obtain ⟨b0, b1⟩ := blw_nn (i := i) (show 1 < p by omega) j
        refine ⟨_, rfl, _, rfl, rfl, _, rfl, ifb (fun h4 => ?_) fun h4 => ?_⟩
        · have hn : (j : Int) ≠ i := fun z => by rw [z] at h4; simp at h4
          refine ⟨_, rfl, _, rfl, _, rfl, x, 0 + (j : Int), rfl, rfl, _, _, rfl, rfl, .inl (by omega), _, rfl, _, p, rfl, rfl, (by show (0 : Int) < p; omega), ?_⟩
          refine ⟨_, rfl, _, rfl, _, rfl, 0 + (i : Int), 0 + (j : Int), rfl, rfl, _, _, rfl, rfl, .inl (by omega), _, rfl, _, p, rfl, rfl, (by show (0 : Int) < p; omega), ?_⟩
          refine ⟨some (.int (0 + (j : Int))), ?_, rfl⟩
          unfold abv blw
          rw [foldl_range_succ, foldl_range_succ, if_pos hn, if_pos hn]
          simp only [Int.zero_add]
          rfl
        · have hn : ¬ (j : Int) ≠ i := fun z => by
            have : decide (V.int (0 + (j : Int)) = V.int (0 + (i : Int))) = false := decide_eq_false fun q => z (by have := V.int.inj q; omega)
            rw [this] at h4
            cases h4
          refine ⟨some (.int (0 + (j : Int))), ?_, rfl⟩
          unfold abv blw
          rw [foldl_range_succ, foldl_range_succ, if_neg hn, if_neg hn]
          rfl
      · rintro σ H'' ⟨v7, rfl, rfl⟩
        obtain ⟨a0, a1⟩ := abv_nn (x := x) (i := i) (show 1 < p by omega) k
        have hI := blw_inv hp hk hkp hi
        refine ⟨_, rfl, .inl ⟨rfl, _, SqL.of hL'⟩, _, rfl, _, rfl, _, rfl, blw k p i, p, rfl, h2, hm, fun r H3 r0 r1 r2 s3 => ?_, fun hn => absurd hI hn⟩
        have er := invZ_eq (show 1 < p by omega) r0 r1 r2
        refine ⟨_, _, rfl, rfl, .inl (by omega), _, rfl, _, p, rfl, rfl, (by show (0 : Int) < p; omega), l, _, _, rfl, rfl, s3 _ _ hL', ?_, ?_⟩
        · rw [List.length_map, List.length_map, List.length_range]
          exact Nat.lt_of_lt_of_le hi (Nat.le_trans hk (by decide))
        · refine ⟨_, _, _, _, rfl, (sm'.trans s3).rewr hl, ?_⟩
          rw [upd_same, List.range_succ, List.map_append, List.map_append]
          show _ = some (HO.lst (_ ++ [V.int (abv k p x i * invZ (blw k p i) p % p)]))
          rw [er]
    · rintro σ H' ⟨v4, v5, v6, v7, rfl, sm, hL⟩
      exact ⟨_, rfl, kk l _ hl sm hL⟩
end
theorem pd_get {α β : Type} {R : α → β → Prop} : ∀ {l : List α} {m : List β} {i : Nat} {a : α}, Paired R l m → l[i]? = some a → ∃ b, m[i]? = some b ∧ R a b
  | _, _, _, _, .nil, h => by simp at h
  | _, _, 0, _, .cons r _, h => by
    simp at h; subst h; exact ⟨_, rfl, r⟩
  | _, _, i + 1, a, .cons _ t, h => by
    obtain ⟨b, h1, h2⟩ := pd_get (i := i) (a := a) t (by simpa using h)
    exact ⟨b, by simpa using h1, h2⟩
theorem pd_len {α β : Type} {R : α → β → Prop} : ∀ {l : List α} {m : List β}, Paired R l m → l.length = m.length
  | _, _, .nil => rfl
  | _, _, .cons _ t => by simp [pd_len t]
theorem pd_getR {α β : Type} {R : α → β → Prop} {l : List α} {m : List β} {i : Nat} {b : β} (h : Paired R l m) (hb : m[i]? = some b) : ∃ a, l[i]? = some a ∧ R a b := by
  have hi : i < m.length := (List.getElem?_eq_some_iff.mp hb).1
  have hl : i < l.length := by rw [pd_len h]; exact hi
  obtain ⟨b', h1, h2⟩ := pd_get h (List.getElem?_eq_getElem hl)
  rw [hb] at h1
  cases h1
  exact ⟨_, List.getElem?_eq_getElem hl, h2⟩
theorem pd_mono {α β : Type} {R S : α → β → Prop} (f : ∀ a b, R a b → S a b) : ∀ {l : List α} {m : List β}, Paired R l m → Paired S l m
  | _, _, .nil => .nil
  | _, _, .cons r t => .cons (f _ _ r) (pd_mono f t)
theorem pd_app {α β : Type} {R : α → β → Prop} {a : α} {b : β} (r : R a b) : ∀ {l : List α} {m : List β}, Paired R l m → Paired R (l ++ [a]) (m ++ [b])
  | _, _, .nil => .cons r .nil
  | _, _, .cons q t => .cons q (pd_app r t)
theorem fold_take {α β : Type} (f : β → α → β) (b : β) {l : List α} {i : Nat} {a : α} (h : l[i]? = some a) : (l.take (i + 1)).foldl f b = f ((l.take i).foldl f b) a := by
  rw [List.take_succ, h, List.foldl_append]
  rfl
theorem getI {ns : List Int} {i : Nat} {v : V} (h : (ns.map V.int)[i]? = some v) : ∃ z, ns[i]? = some z ∧ v = .int z := by
  rw [List.getElem?_map] at h
  cases e : ns[i]? with
  | none => rw [e] at h; cases h
  | some z => rw [e] at h; exact ⟨z, rfl, (Option.some.inj h).symm⟩
/-! ### tables in the heap -/
def RowAt (H : Hp) (v : V) (row : List Int) : Prop := ∃ r, v = .ref r ∧ H r = some (.tup (row.map V.int))
def TblAt (H : Hp) (t : Addr) (tb : List (List Int)) : Prop := ∃ vs, H t = some (.tup vs) ∧ Paired (RowAt H) vs tb
/-- a table of the size k over m -/
structure OkT (m : Int) (tb : List (List Int)) : Prop where
  l1 : 1 ≤ tb.length
  l3 : tb.length ≤ 3
  lm : (tb.length : Int) ≤ m
  row : ∀ r ∈ tb, r.length = tb.length ∧ ∀ e ∈ r, 0 ≤ e ∧ e < m
theorem RowAt.mono {H H' : Hp} (s : Same H H') {v : V} {r : List Int} (h : RowAt H v r) : RowAt H' v r := by
  obtain ⟨a, e, q⟩ := h
  exact ⟨a, e, s _ _ q⟩
theorem TblAt.mono {H H' : Hp} (s : Same H H') {t : Addr} {tb : List (List Int)} (h : TblAt H t tb) : TblAt H' t tb := by
  obtain ⟨vs, q, p⟩ := h
  exact ⟨vs, s _ _ q, pd_mono (fun _ _ => RowAt.mono s) p⟩
theorem wt_nn {k : Nat} {p x : Int} (hp : 1 < p) (i : Nat) : 0 ≤ wt k p x i ∧ wt k p x i < p := ⟨Int.emod_nonneg _ (by omega), Int.emod_lt_of_pos _ (by omega)⟩
section
variable {P : Program} {w : World} {K : PySem.W.Frag} {mg : Str → Option Value} {base : Heap}
/-! ### numbers.py: interpolate -/
def spInterpolate : Sp := fun vs H Q _ => ∃ (t : Addr) (p x y : Int) (tb : List (List Int)), vs = [.ref t, .int p, .int x, .int y] ∧ TblAt H t tb ∧ OkT p tb ∧ Pr p ∧ p ≤ 1000000000 ∧ 0 ≤ x ∧ 0 ≤ y ∧ ∀ H', Same H H' → Q (.int (itp tb p x y)) H'
abbrev N_interpolate : List Str := ["table", "prime", "x", "y", "size", "rows", "columns", "total", "row", "weight", "part", "entry", "other"]
theorem sc_interpolate : FnScope N_interpolate ["table", "prime", "x", "y"] (defScope sInterpolate) := ⟨rfl, rfl, rfl, by decide +kernel, rfl, by decide +kernel, by decide +kernel⟩
theorem ok_interpolate (T : Top K mg) : FnOk P w K mg base CX0 3 T.interpolate.f T.interpolate.fd ["table", "prime", "x", "y"] spInterpolate := by
  refine T.interpolate.F.ok sc_interpolate (fun vs H Q E h => ?_) (fun cdv A outer s H vs Q E hr h => ?_)
  · obtain ⟨t, p, x, y, tb, rfl, _⟩ := h
    rfl
  · obtain ⟨t, p, x, y, tb, rfl, ⟨rv, hT, hP⟩, ⟨l1, l3, lm, hrow⟩, hp, hm, x0, y0, kk⟩ := h
    have h2 : 2 ≤ p := hp.1
    have hlen : rv.length = tb.length := pd_len hP
    refine ⟨_, (pss_cons (ps_set (i := 4) sc_interpolate.nd rfl (Or.inl rfl) (pe_callB call_len_seq rfl T.zlen (by decide +kernel) (pa_cons (pv 0) pa_nil)))
      (pss_cons (ps_if (PT.weak (t' := fun σ H' Qb => σ = [some (.ref t), some (.int p), some (.int x), some (.int y), some (.int rv.length), none, none, none, none, none, none, none, none] ∧ Qb (decide (x < (rv.length : Int) ∧ y < (rv.length : Int))) H') (PW.pt (pw_and (pt_chain op_le op_lt pe_int (pv 2) (pv 4)) (pw_and1 (pt_chain op_le op_lt pe_int (pv 3) (pv 4))))) (by
        rintro σ H' Qb ⟨rfl, q⟩
        refine ⟨_, rfl, 0, x, rfl, rfl, _, rfl, ifT (decide_eq_true x0) ⟨_, rfl, x, _, rfl, rfl, _, rfl, ifb (fun c1 => ?_) fun c1 => ?_⟩⟩
        · refine ⟨_, rfl, 0, y, rfl, rfl, _, rfl, ifT (decide_eq_true y0) ⟨_, rfl, y, _, rfl, rfl, _, rfl, ?_⟩⟩
          have e : decide (x < (rv.length : Int) ∧ y < (rv.length : Int)) = decide (y < (rv.length : Int)) := by
            have c1' : x < (rv.length : Int) := of_decide_eq_true c1
            by_cases c : y < (rv.length : Int)
            · rw [decide_eq_true c, decide_eq_true ⟨c1', c⟩]
            · rw [decide_eq_false c, decide_eq_false fun z => c z.2]
          rw [e] at q
          exact q
        · have e : decide (x < (rv.length : Int) ∧ y < (rv.length : Int)) = false := decide_eq_false fun z => (of_decide_eq_false c1) z.1
          rw [e] at q
          exact q)) (pss_one (ps_ret (pe_op op_mod (pe_ix ix_tup (pe_ix ix_tup (pv 0) (pv 2) (fun _ _ => rfl)) (pv 3) (fun _ _ => rfl)) (pv 1)))) pss_nil)
      (pss_cons (ps_set (i := 5) sc_interpolate.nd rfl (Or.inl rfl) (pe_call (ok_weights T) (hr.mono (by decide)) rfl T.weights.g T.weights.kp T.weights.b .nil pass0 (pa_cons (pv 4) (pa_cons (pv 1) (pa_cons (pv 2) pa_nil)))))
      (pss_cons (ps_set (i := 6) sc_interpolate.nd rfl (Or.inl rfl) (pe_call (ok_weights T) (hr.mono (by decide)) rfl T.weights.g T.weights.kp T.weights.b .nil pass0 (pa_cons (pv 4) (pa_cons (pv 1) (pa_cons (pv 3) pa_nil)))))
      (pss_cons (ps_set (i := 7) sc_interpolate.nd rfl (Or.inl rfl) pe_int)
      (pss_cons (ps_for PassesOwn.never rfl (pi_zipM rfl T.zzip (pa_cons (pv 0) (pa_cons (pv 5) pa_nil))) (pg_tup rfl (pgs_cons (pg_name (i := 8) sc_interpolate.nd rfl (Or.inl rfl)) (pgs_cons (pg_name (i := 9) sc_interpolate.nd rfl (Or.inl rfl)) pgs_nil))) (pss_cons (ps_set (i := 10) sc_interpolate.nd rfl (Or.inl rfl) pe_int)
          (pss_cons (ps_for PassesOwn.never rfl (pi_zipM rfl T.zzip (pa_cons (pv 8) (pa_cons (pv 6) pa_nil))) (pg_tup rfl (pgs_cons (pg_name (i := 11) sc_interpolate.nd rfl (Or.inl rfl)) (pgs_cons (pg_name (i := 12) sc_interpolate.nd rfl (Or.inl rfl)) pgs_nil))) (pss_one (ps_aug (i := 10) sc_interpolate.nd rfl (Or.inl rfl) (pe_op op_mul (pv 11) (pv 12)) ip_add)))
          (pss_one (ps_set (i := 7) sc_interpolate.nd rfl (Or.inl rfl) (pe_op op_mod (pe_op op_add (pv 7) (pe_op op_mul (pv 9) (pv 10))) (pv 1)))))))
      (pss_one (ps_ret (pv 7))))))))), ?_⟩
    refine ⟨_, rfl, t, rv, rfl, .inr (SqT.of hT), ?_⟩
    -- size, the test
    refine ⟨rfl, ifb (fun hx => ?_) fun hx => ?_⟩
    · obtain ⟨x1, y1⟩ := of_decide_eq_true hx
      rw [hlen] at x1 y1
      obtain ⟨row, hr1⟩ : ∃ row, tb[x.toNat]? = some row := ⟨_, List.getElem?_eq_getElem (by omega)⟩
      obtain ⟨v, hv, r, rfl, hr2⟩ := pd_getR hP hr1
      obtain ⟨rl, re⟩ := hrow row (List.mem_of_getElem? hr1)
      obtain ⟨e, he⟩ : ∃ e, row[y.toNat]? = some e := ⟨_, List.getElem?_eq_getElem (by omega)⟩
      refine ⟨_, rfl, _, rfl, t, rv, x, .ref r, rfl, rfl, SqT.of hT, at_of (j := x.toNat) (by omega) hv, _, rfl, r, row.map V.int, y, .int e, rfl, rfl, SqT.of hr2, at_of (j := y.toNat) (by omega) (by rw [List.getElem?_map, he]; rfl), _, rfl, e, p, rfl, rfl, (by show (0 : Int) < p; omega), ?_⟩
      have ei : itp tb p x y = e % p := by
        unfold itp
        rw [if_pos ⟨x0, x1, y0, y1⟩]
        simp only [List.getD_eq_getElem?_getD, hr1, Option.getD_some, he]
      have q := kk H (Same.refl _)
      rw [ei] at q
      exact q
    · have ei : itp tb p x y = itpW tb p (wts tb.length p x) (wts tb.length p y) := by
        unfold itp
        rw [if_neg fun z => (of_decide_eq_false hx) (by rw [hlen]; exact ⟨z.2.1, z.2.2.2⟩)]
      rw [ei] at kk
      rw [hlen]
      refine ⟨_, rfl, _, rfl, _, rfl, tb.length, p, x, rfl, l3, lm, hp, hm, fun lr H1 nlr s1 hlr => ?_⟩
      refine ⟨_, rfl, _, rfl, _, rfl, tb.length, p, y, rfl, l3, lm, hp, hm, fun lc H2 nlc s2 hlc => ?_⟩
      have s02 : Same H H2 := s1.trans s2
      have lw : rv.length = ((wts tb.length p x).map V.int).length := by rw [List.length_map]; unfold wts; rw [List.length_map, List.length_range, hlen]
      refine ⟨_, rfl, _, rfl, t, lr, _, _, rfl, SqT.of (s02 _ _ hT), SqL.of (s2 _ _ hlr), for_it (walk_zipM lw) (fun i σ H' => ∃ v8 v9 v10 v11 v12, σ = [some (.ref t), some (.int p), some (.int x), some (.int y), some (.int tb.length), some (.ref lr), some (.ref lc),
          some (.int (((List.zip tb (wts tb.length p x)).take i).foldl (fun a q => (a + q.2 * dot q.1 (wts tb.length p y)) % p) 0)), v8, v9, v10, v11, v12] ∧ Same H2 H')
        ⟨none, none, none, none, none, rfl, Same.refl _⟩ (fun i σ H' _ ⟨_, _, _, _, _, _, s3⟩ => ⟨SqT.of (s3 _ _ (s02 _ _ hT)), SqL.of (s3 _ _ (s2 _ _ hlr))⟩) ?_ ?_⟩
      · rintro i v σ H3 H4 hi ⟨v8, v9, v10, v11, v12, rfl, s3⟩ ⟨Tp, a, b, rfl, nT, rfl, ha, hb⟩
        obtain ⟨row, hr1, rr, rfl, hr2⟩ := pd_get hP ha
        obtain ⟨wv, hw, rfl⟩ := getI hb
        obtain ⟨rl, re⟩ := hrow row (List.mem_of_getElem? hr1)
        have w01 : 0 ≤ wv ∧ wv < p := by
          unfold wts at hw
          rw [List.getElem?_map] at hw
          cases e : (List.range tb.length)[i]? with
          | none => rw [e] at hw; cases hw
          | some z =>
            rw [e] at hw
            cases hw
            exact wt_nn (by omega) z
        have s4 : Same H2 (upd H3 Tp (.tup [.ref rr, .int wv])) := s3.newer nT
        refine ⟨Tp, _, rfl, SqT.of upd_same, rfl, _, _, rfl, _, _, rfl, rfl, ?_⟩
        have lc2 : (row.map V.int).length = ((wts tb.length p y).map V.int).length := by rw [List.length_map, List.length_map]; unfold wts; rw [List.length_map, List.length_range, rl]
        refine ⟨_, rfl, _, rfl, rr, lc, _, _, rfl, SqT.of (s4 _ _ (s02 _ _ hr2)), SqL.of (s4 _ _ hlc), for_it (walk_zipM lc2) (fun j σ H' => ∃ v11 v12, σ = [some (.ref t), some (.int p), some (.int x), some (.int y), some (.int tb.length), some (.ref lr), some (.ref lc),
            some (.int (((List.zip tb (wts tb.length p x)).take i).foldl (fun a q => (a + q.2 * dot q.1 (wts tb.length p y)) % p) 0)), some (.ref rr), some (.int wv), some (.int (((List.zip row (wts tb.length p y)).take j).foldl (fun a q => a + q.1 * q.2) 0)), v11, v12] ∧ Same H2 H')
          ⟨_, _, rfl, s4⟩ (fun j σ H' _ ⟨_, _, _, s5⟩ => ⟨SqT.of (s5 _ _ (s02 _ _ hr2)), SqL.of (s5 _ _ hlc)⟩) ?_ ?_⟩
        · rintro j v σ H5 H6 hj ⟨v11, v12, rfl, s5⟩ ⟨Tq, a, b, rfl, nTq, rfl, ha2, hb2⟩
          obtain ⟨ev, he, rfl⟩ := getI ha2
          obtain ⟨cv, hc, rfl⟩ := getI hb2
          obtain ⟨e0, e1⟩ := re ev (List.mem_of_getElem? he)
          refine ⟨Tq, _, rfl, SqT.of upd_same, rfl, _, _, rfl, _, _, rfl, rfl, ?_⟩
          refine ⟨_, rfl, _, rfl, _, rfl, ev, cv, rfl, rfl, .inl (by omega), _, _, rfl, rfl, some (.int ev), some (.int cv), ?_, s5.newer nTq⟩
          rw [fold_take (fun a (q : Int × Int) => a + q.1 * q.2) 0 (a := (ev, cv)) (List.getElem?_zip_eq_some.mpr ⟨he, hc⟩)]
          rfl
        · rintro σ H5 ⟨v11, v12, rfl, s5⟩
          refine ⟨_, rfl, _, rfl, _, rfl, wv, _, rfl, rfl, .inl (by omega), _, _, rfl, rfl, _, rfl, _, p, rfl, rfl, (by show (0 : Int) < p; omega), some (.ref rr), some (.int wv), some (.int (((List.zip row (wts tb.length p y)).take (row.map V.int).length).foldl (fun a q => a + q.1 * q.2) 0)), v11, v12, ?_, s5⟩
          rw [fold_take (fun a (q : List Int × Int) => (a + q.2 * dot q.1 (wts tb.length p y)) % p) 0 (a := (row, wv)) (List.getElem?_zip_eq_some.mpr ⟨hr1, hw⟩)]
          unfold dot
          rw [List.take_of_length_le (l := List.zip row (wts tb.length p y)) (by rw [List.length_zip, List.length_map]; exact Nat.min_le_left _ _)]
          rfl
      · rintro σ H3 ⟨v8, v9, v10, v11, v12, rfl, s3⟩
        refine ⟨_, rfl, ?_⟩
        have q := kk H3 (s02.trans s3)
        rw [List.take_of_length_le (by rw [List.length_zip, hlen]; exact Nat.min_le_left _ _)]
        exact q
end
/-! ### steps, as data and in the heap -/
inductive Stp where
  | add (t : Nat) (c : Int) (fs : List (Bool × Nat))
  | scale (t : Nat) (u : Int)
  | swap (a b : Nat)
  | look (t : Nat) (s : Int) (tb : List (List Int)) (a b : Nat)
def fname (b : Bool) : Str := if b then "cell" else "input"
def FacAt (H : Hp) (v : V) (f : Bool × Nat) : Prop := ∃ p, v = .ref p ∧ H p = some (.tup [.str (fname f.1), .int f.2])
def StpAt (H : Hp) (v : V) : Stp → Prop
  | .add t c fs => ∃ p q vs, v = .ref p ∧ H p = some (.tup [.str "add", .int t, .int c, .ref q]) ∧ H q = some (.tup vs) ∧ Paired (FacAt H) vs fs
  | .scale t u => ∃ p, v = .ref p ∧ H p = some (.tup [.str "scale", .int t, .int u])
  | .swap a b => ∃ p, v = .ref p ∧ H p = some (.tup [.str "swap", .int a, .int b])
  | .look t s tb a b => ∃ p q, v = .ref p ∧ H p = some (.tup [.str "table", .int t, .int s, .ref q, .int a, .int b]) ∧ TblAt H q tb
structure OkF (nc ni t : Nat) (f : Bool × Nat) : Prop where
  c : f.1 = true → f.2 < nc ∧ f.2 ≠ t
  i : f.1 = false → f.2 < ni
def OkS (m : Int) (nc ni : Nat) : Stp → Prop
  | .add t c fs => t < nc ∧ 0 ≤ c ∧ c < m ∧ fs.length ≤ 3 ∧ ∀ f ∈ fs, OkF nc ni t f
  | .scale t u => t < nc ∧ 0 ≤ u ∧ u < m ∧ HasInv u m
  | .swap a b => a < nc ∧ b < nc ∧ a ≠ b
  | .look t s tb a b => t < nc ∧ a < nc ∧ b < nc ∧ t ≠ a ∧ t ≠ b ∧ a ≠ b ∧ (s = 1 ∨ s = m - 1) ∧ Pr m ∧ OkT m tb
theorem FacAt.mono {H H' : Hp} (s : Same H H') {v : V} {f : Bool × Nat} (h : FacAt H v f) : FacAt H' v f := by
  obtain ⟨p, e, q⟩ := h
  exact ⟨p, e, s _ _ q⟩
theorem StpAt.mono {H H' : Hp} (s : Same H H') {v : V} : ∀ {x : Stp}, StpAt H v x → StpAt H' v x
  | .add _ _ _, ⟨p, q, vs, e, h1, h2, h3⟩ => ⟨p, q, vs, e, s _ _ h1, s _ _ h2, pd_mono (fun _ _ => FacAt.mono s) h3⟩
  | .scale _ _, ⟨p, e, h1⟩ => ⟨p, e, s _ _ h1⟩
  | .swap _ _, ⟨p, e, h1⟩ => ⟨p, e, s _ _ h1⟩
  | .look _ _ _ _ _, ⟨p, q, e, h1, h2⟩ => ⟨p, q, e, s _ _ h1, h2.mono s⟩
theorem xca : ¬ (V.str "input" = V.str "cell") := by decide +kernel
theorem xsa : ¬ (V.str "scale" = V.str "add") := by decide +kernel
theorem xwa : ¬ (V.str "swap" = V.str "add") := by decide +kernel
theorem xta : ¬ (V.str "table" = V.str "add") := by decide +kernel
theorem xws : ¬ (V.str "swap" = V.str "scale") := by decide +kernel
theorem xts : ¬ (V.str "table" = V.str "scale") := by decide +kernel
theorem xtw : ¬ (V.str "table" = V.str "swap") := by decide +kernel
theorem xst : ¬ (V.str "scale" = V.str "table") := by decide +kernel
theorem xwt : ¬ (V.str "swap" = V.str "table") := by decide +kernel
theorem xat : ¬ (V.str "add" = V.str "table") := by decide +kernel
theorem decT {a b : V} (h : a = b) : decide (a = b) = true := decide_eq_true h
theorem decF {a b : V} (h : ¬ a = b) : decide (a = b) = false := decide_eq_false h
theorem nT {b : Bool} (h : b = true) : (!b) = false := by rw [h]; rfl
theorem nF {b : Bool} (h : b = false) : (!b) = true := by rw [h]; rfl
theorem nint {a b : Int} (h : a ≠ b) : ¬ (V.int a = V.int b) := fun z => h (V.int.inj z)
section
variable {P : Program} {w : World} {K : PySem.W.Frag} {mg : Str → Option Value} {base : Heap}
/-! ### steps.py: is_factor -/
def spIsFactor : Sp := fun vs H Q _ => ∃ (v : V) (t nc ni : Nat) (f : Bool × Nat), vs = [v, .int t, .int nc, .int ni] ∧ FacAt H v f ∧ OkF nc ni t f ∧ Q (.bl true) H
abbrev N_isFactor : List Str := ["factor", "target", "cells", "inputs"]
theorem sc_isFactor : FnScope N_isFactor ["factor", "target", "cells", "inputs"] (defScope sIsFactor) := ⟨rfl, rfl, rfl, by decide +kernel, rfl, by decide +kernel, by decide +kernel⟩
theorem ok_isFactor (T : Top K mg) : FnOk P w K mg base CX0 3 T.isFactor.f T.isFactor.fd ["factor", "target", "cells", "inputs"] spIsFactor := by
  refine T.isFactor.F.ok sc_isFactor (fun vs H Q E h => ?_) (fun cdv A outer s H vs Q E hr h => ?_)
  · obtain ⟨v, t, nc, ni, f, rfl, _⟩ := h
    rfl
  · obtain ⟨v, t, nc, ni, ⟨b, i⟩, rfl, ⟨p, rfl, hp⟩, ho, kk⟩ := h
    refine ⟨_, (pss_cons (ps_if (PW.pt (pw_or (pt_not (pt_val (pe_callB call_isi rfl T.zisinstance (by decide +kernel) (pa_cons (pv 0) (pa_cons (pe_bltn (v := .ty "tuple") rfl T.ztuple (by decide +kernel) rfl) pa_nil))))) (pw_or1 (pt_cmpR op_ne (pe_callB call_len_seq rfl T.zlen (by decide +kernel) (pa_cons (pv 0) pa_nil)) pe_int (nomark _))))) (pss_one (ps_ret pe_bl)) pss_nil)
      (pss_cons (ps_if (pt_cmpR op_eq (pe_ix ix_tup (pv 0) pe_int (fun _ _ => rfl)) pe_str (nomark _)) (pss_one (ps_ret (pe_and (pe_call (ok_isNumber T) (hr.mono (by decide)) rfl T.isNumber.g T.isNumber.kp T.isNumber.b .nil pass0 (pa_cons (pe_ix ix_tup (pv 0) pe_int (fun _ _ => rfl)) (pa_cons (pv 2) pa_nil))) (pe_one (pe_cmpR op_ne (pe_ix ix_tup (pv 0) pe_int (fun _ _ => rfl)) (pv 1) (nomark _)))))) pss_nil)
      (pss_one (ps_ret (pe_and (pe_cmpR op_eq (pe_ix ix_tup (pv 0) pe_int (fun _ _ => rfl)) pe_str (nomark _)) (pe_one (pe_call (ok_isNumber T) (hr.mono (by decide)) rfl T.isNumber.g T.isNumber.kp T.isNumber.b .nil pass0 (pa_cons (pe_ix ix_tup (pv 0) pe_int (fun _ _ => rfl)) (pa_cons (pv 3) pa_nil))))))))), ?_⟩
    have ty : TyX K H (.ref p) (.type "tuple") := .base (.tup hp)
    refine ⟨_, rfl, _, _, _, _, true, rfl, .ty "tuple", ty, kit_ty (by decide +kernel), true, rfl, iteF ?_⟩
    refine ⟨_, rfl, p, _, rfl, .inr (SqT.of hp), rfl, _, rfl, ifF rfl ?_⟩
    cases b with
    | true =>
      obtain ⟨h1, h2⟩ := ho.c rfl
      refine ⟨_, rfl, p, _, 0, .str "cell", rfl, rfl, SqT.of hp, atI_nat (j := 0) rfl, rfl, _, rfl, ifT (decT rfl) ?_⟩
      refine ⟨_, rfl, p, _, 1, .int i, rfl, rfl, SqT.of hp, atI_nat (j := 1) rfl, _, rfl, (i : Int), nc, rfl, by omega, by omega, true, rfl, iteT ?_⟩
      refine ⟨_, rfl, p, _, 1, .int i, rfl, rfl, SqT.of hp, atI_nat (j := 1) rfl, _, rfl, rfl, ?_⟩
      have e : (!decide (V.int (i : Int) = V.int (t : Int))) = true := nF (decF (nint (by have : i ≠ t := h2; omega)))
      show Q (.bl (!decide (V.int (i : Int) = V.int (t : Int)))) H
      rw [e]
      exact kk
    | false =>
      have h1 := ho.i rfl
      refine ⟨_, rfl, p, _, 0, .str "input", rfl, rfl, SqT.of hp, atI_nat (j := 0) rfl, rfl, _, rfl, ifF (decF xca) ?_⟩
      refine ⟨_, rfl, p, _, 0, .str "input", rfl, rfl, SqT.of hp, atI_nat (j := 0) rfl, rfl, _, rfl, ifT (decT rfl) ?_⟩
      exact ⟨_, rfl, p, _, 1, .int i, rfl, rfl, SqT.of hp, atI_nat (j := 1) rfl, _, rfl, (i : Int), ni, rfl, by omega, by have : i < ni := h1; omega, kk⟩
/-! ### steps.py: is_table -/
def spIsTable : Sp := fun vs H Q _ => ∃ (t : Addr) (m : Int) (tb : List (List Int)), vs = [.ref t, .int m] ∧ TblAt H t tb ∧ OkT m tb ∧ Q (.bl true) H
abbrev N_isTable : List Str := ["table", "modulus", "row", "entry"]
theorem sc_isTable : FnScope N_isTable ["table", "modulus"] (defScope sIsTable) := ⟨rfl, rfl, rfl, by decide +kernel, rfl, by decide +kernel, by decide +kernel⟩
theorem ok_isTable (T : Top K mg) : FnOk P w K mg base CX0 3 T.isTable.f T.isTable.fd ["table", "modulus"] spIsTable := by
  refine T.isTable.F.ok sc_isTable (fun vs H Q E h => ?_) (fun cdv A outer s H vs Q E hr h => ?_)
  · obtain ⟨t, m, tb, rfl, _⟩ := h
    rfl
  · obtain ⟨t, m, tb, rfl, ⟨rv, hT, hP⟩, ⟨l1, l3, lm, hrow⟩, kk⟩ := h
    have hlen : rv.length = tb.length := pd_len hP
    refine ⟨_, (pss_cons (ps_if (PW.pt (pw_or (pt_not (pt_val (pe_callB call_isi rfl T.zisinstance (by decide +kernel) (pa_cons (pv 0) (pa_cons (pe_bltn (v := .ty "tuple") rfl T.ztuple (by decide +kernel) rfl) pa_nil))))) (pw_or1 (pt_not (pt_chain op_le op_le pe_int (pe_callB call_len_seq rfl T.zlen (by decide +kernel) (pa_cons (pv 0) pa_nil)) (pv 1)))))) (pss_one (ps_ret pe_bl)) pss_nil)
      (pss_cons (ps_for PassesOwn.never rfl (pi_tup (pv 0)) (pg_name (i := 2) sc_isTable.nd rfl (Or.inl rfl)) (pss_cons (ps_if (PW.pt (pw_or (pt_not (pt_val (pe_callB call_isi rfl T.zisinstance (by decide +kernel) (pa_cons (pv 2) (pa_cons (pe_bltn (v := .ty "tuple") rfl T.ztuple (by decide +kernel) rfl) pa_nil))))) (pw_or1 (pt_cmpR op_ne (pe_callB call_len_seq rfl T.zlen (by decide +kernel) (pa_cons (pv 2) pa_nil)) (pe_callB call_len_seq rfl T.zlen (by decide +kernel) (pa_cons (pv 0) pa_nil)) (nomark _))))) (pss_one (ps_ret pe_bl)) pss_nil)
          (pss_one (ps_for PassesOwn.never rfl (pi_tup (pv 2)) (pg_name (i := 3) sc_isTable.nd rfl (Or.inl rfl)) (pss_one (ps_if (pt_not (pt_val (pe_call (ok_isNumber T) (hr.mono (by decide)) rfl T.isNumber.g T.isNumber.kp T.isNumber.b .nil pass0 (pa_cons (pv 3) (pa_cons (pv 1) pa_nil))))) (pss_one (ps_ret pe_bl)) pss_nil))))))
      (pss_one (ps_ret pe_bl)))), ?_⟩
    refine ⟨_, rfl, _, _, _, _, true, rfl, .ty "tuple", .base (.tup hT), kit_ty (by decide +kernel), true, rfl, iteF ?_⟩
    refine ⟨_, rfl, t, _, rfl, .inr (SqT.of hT), 1, _, rfl, rfl, _, rfl, ifT (decide_eq_true (by omega)) ⟨_, rfl, _, m, rfl, rfl, _, rfl, ifF (nT (decide_eq_true (by omega))) ?_⟩⟩
    refine ⟨_, rfl, t, rfl, ⟨_, SqT.of hT⟩, for_tup (K := K) (a := t) (xs := rv) (fun i σ H' => ∃ v2 v3, σ = [some (.ref t), some (.int m), v2, v3] ∧ H' = H) ⟨none, none, rfl, rfl⟩ (fun i σ H' _ ⟨_, _, _, e⟩ => by rw [e]; exact SqT.of hT) ?_ ?_⟩
    · rintro i v σ H' hv ⟨v2, v3, rfl, rfl⟩
      obtain ⟨row, hr1, r, rfl, hr2⟩ := pd_get hP hv
      obtain ⟨rl, re⟩ := hrow row (List.mem_of_getElem? hr1)
      refine ⟨_, rfl, _, _, _, _, true, rfl, .ty "tuple", .base (.tup hr2), kit_ty (by decide +kernel), true, rfl, iteF ?_⟩
      refine ⟨_, rfl, r, _, rfl, .inr (SqT.of hr2), _, rfl, t, _, rfl, .inr (SqT.of hT), rfl, _, rfl, ifF (nT (decT (by rw [List.length_map, rl, hlen]))) ?_⟩
      refine ⟨_, rfl, r, rfl, ⟨_, SqT.of hr2⟩, for_tup (K := K) (a := r) (xs := row.map V.int) (fun i σ H'' => ∃ v3, σ = [some (.ref t), some (.int m), some (.ref r), v3] ∧ H'' = H') ⟨v3, rfl, rfl⟩ (fun i σ H'' _ ⟨_, _, e⟩ => by rw [e]; exact SqT.of hr2) ?_ ?_⟩
      · rintro j x σ H'' hx ⟨v3, rfl, rfl⟩
        obtain ⟨z, hz, rfl⟩ := getI hx
        obtain ⟨z0, z1⟩ := re z (List.mem_of_getElem? hz)
        exact ⟨_, rfl, _, rfl, z, m, rfl, z0, z1, _, rfl, iteF ⟨_, rfl, rfl⟩⟩
      · rintro σ H'' ⟨v3, rfl, rfl⟩
        exact ⟨_, _, rfl, rfl⟩
    · rintro σ H' ⟨v2, v3, rfl, rfl⟩
      exact kk
/-! ### steps.py: is_add -/
def spIsAdd : Sp := fun vs H Q _ => ∃ (v : V) (m : Int) (nc ni t : Nat) (c : Int) (fs : List (Bool × Nat)), vs = [v, .int m, .int nc, .int ni] ∧ StpAt H v (.add t c fs) ∧ OkS m nc ni (.add t c fs) ∧ Q (.bl true) H
abbrev N_isAdd : List Str := ["step", "modulus", "cells", "inputs", "_", "target", "coefficient", "factors", "factor"]
theorem sc_isAdd : FnScope N_isAdd ["step", "modulus", "cells", "inputs"] (defScope sIsAdd) := ⟨rfl, rfl, rfl, by decide +kernel, rfl, by decide +kernel, by decide +kernel⟩
theorem ok_isAdd (T : Top K mg) : FnOk P w K mg base CX0 4 T.isAdd.f T.isAdd.fd ["step", "modulus", "cells", "inputs"] spIsAdd := by
  refine T.isAdd.F.ok sc_isAdd (fun vs H Q E h => ?_) (fun cdv A outer s H vs Q E hr h => ?_)
  · obtain ⟨v, m, nc, ni, t, c, fs, rfl, _⟩ := h
    rfl
  · obtain ⟨v, m, nc, ni, t, c, fs, rfl, ⟨p, q, vs, rfl, hp, hq, hF⟩, ⟨ht, c0, c1, l3, hf⟩, kk⟩ := h
    have hlen : vs.length = fs.length := pd_len hF
    refine ⟨_, (pss_cons (ps_asg (pv 0) (pg_tup rfl (pgs_cons (pg_name (i := 4) sc_isAdd.nd rfl (Or.inl rfl)) (pgs_cons (pg_name (i := 5) sc_isAdd.nd rfl (Or.inl rfl)) (pgs_cons (pg_name (i := 6) sc_isAdd.nd rfl (Or.inl rfl)) (pgs_cons (pg_name (i := 7) sc_isAdd.nd rfl (Or.inl rfl)) pgs_nil))))))
      (pss_cons (ps_if (PW.pt (pw_or (pt_not (pt_val (pe_call (ok_isNumber T) (hr.mono (by decide)) rfl T.isNumber.g T.isNumber.kp T.isNumber.b .nil pass0 (pa_cons (pv 5) (pa_cons (pv 2) pa_nil))))) (pw_or1 (pt_not (pt_val (pe_call (ok_isNumber T) (hr.mono (by decide)) rfl T.isNumber.g T.isNumber.kp T.isNumber.b .nil pass0 (pa_cons (pv 6) (pa_cons (pv 1) pa_nil)))))))) (pss_one (ps_ret pe_bl)) pss_nil)
      (pss_cons (ps_if (PW.pt (pw_or (pt_not (pt_val (pe_callB call_isi rfl T.zisinstance (by decide +kernel) (pa_cons (pv 7) (pa_cons (pe_bltn (v := .ty "tuple") rfl T.ztuple (by decide +kernel) rfl) pa_nil))))) (pw_or1 (pt_cmpR op_gt (pe_callB call_len_seq rfl T.zlen (by decide +kernel) (pa_cons (pv 7) pa_nil)) (pe_glob (v := .int 3) rfl T.kFACTORS.choose_spec ⟨_, rfl⟩) (nomark _))))) (pss_one (ps_ret pe_bl)) pss_nil)
      (pss_cons (ps_for PassesOwn.never rfl (pi_tup (pv 7)) (pg_name (i := 8) sc_isAdd.nd rfl (Or.inl rfl)) (pss_one (ps_if (pt_not (pt_val (pe_call (ok_isFactor T) (hr.mono (by decide)) rfl T.isFactor.g T.isFactor.kp T.isFactor.b .nil pass0 (pa_cons (pv 8) (pa_cons (pv 5) (pa_cons (pv 2) (pa_cons (pv 3) pa_nil))))))) (pss_one (ps_ret pe_bl)) pss_nil)))
      (pss_one (ps_ret pe_bl)))))), ?_⟩
    refine ⟨_, rfl, p, _, rfl, SqT.of hp, rfl, _, _, rfl, _, _, rfl, _, _, rfl, _, _, rfl, rfl, ?_⟩
    refine ⟨_, rfl, _, rfl, t, nc, rfl, by omega, by omega, _, rfl, iteF ⟨_, rfl, _, rfl, c, m, rfl, c0, c1, _, rfl, iteF ?_⟩⟩
    refine ⟨_, rfl, _, _, _, _, true, rfl, .ty "tuple", .base (.tup hq), kit_ty (by decide +kernel), true, rfl, iteF ?_⟩
    refine ⟨_, rfl, q, _, rfl, .inr (SqT.of hq), _, 3, rfl, rfl, _, rfl, ifF (decide_eq_false (by omega)) ?_⟩
    refine ⟨_, rfl, q, rfl, ⟨_, SqT.of hq⟩, for_tup (K := K) (a := q) (xs := vs) (fun i σ H' => ∃ v8, σ = [some (.ref p), some (.int m), some (.int nc), some (.int ni), some (.str "add"), some (.int t), some (.int c), some (.ref q), v8] ∧ H' = H) ⟨none, rfl, rfl⟩ (fun i σ H' _ ⟨_, _, e⟩ => by rw [e]; exact SqT.of hq) ?_ ?_⟩
    · rintro i x σ H' hx ⟨v8, rfl, rfl⟩
      obtain ⟨f, hf1, hf2⟩ := pd_get hF hx
      exact ⟨_, rfl, _, rfl, _, rfl, _, rfl, x, t, nc, ni, f, rfl, hf2, hf f (List.mem_of_getElem? hf1), _, rfl, iteF ⟨_, rfl, rfl⟩⟩
    · rintro σ H' ⟨v8, rfl, rfl⟩
      exact kk
/-! ### steps.py: is_look -/
def spIsLook : Sp := fun vs H Q _ => ∃ (v : V) (m : Int) (nc ni t : Nat) (s : Int) (tb : List (List Int)) (a b : Nat), vs = [v, .int m, .int nc] ∧ StpAt H v (.look t s tb a b) ∧ OkS m nc ni (.look t s tb a b) ∧ ∀ H', Same H H' → Q (.bl true) H'
abbrev N_isLook : List Str := ["step", "modulus", "cells", "_", "target", "sign", "table", "a", "b", "cell"]
theorem sc_isLook : FnScope N_isLook ["step", "modulus", "cells"] (defScope sIsLook) := ⟨rfl, rfl, rfl, by decide +kernel, rfl, by decide +kernel, by decide +kernel⟩
theorem ok_isLook (T : Top K mg) : FnOk P w K mg base CX0 4 T.isLook.f T.isLook.fd ["step", "modulus", "cells"] spIsLook := by
  refine T.isLook.F.ok sc_isLook (fun vs H Q E h => ?_) (fun cdv A outer s H vs Q E hr h => ?_)
  · obtain ⟨v, m, nc, ni, t, s, tb, a, b, rfl, _⟩ := h
    rfl
  · obtain ⟨v, m, nc, ni, t, s, tb, a, b, rfl, ⟨p, q, rfl, hp, hq⟩, ⟨ht, ha, hb, hta, htb, hab, hs, hpr, hT⟩, kk⟩ := h
    refine ⟨_, (pss_cons (ps_asg (pv 0) (pg_tup rfl (pgs_cons (pg_name (i := 3) sc_isLook.nd rfl (Or.inl rfl)) (pgs_cons (pg_name (i := 4) sc_isLook.nd rfl (Or.inl rfl)) (pgs_cons (pg_name (i := 5) sc_isLook.nd rfl (Or.inl rfl)) (pgs_cons (pg_name (i := 6) sc_isLook.nd rfl (Or.inl rfl)) (pgs_cons (pg_name (i := 7) sc_isLook.nd rfl (Or.inl rfl)) (pgs_cons (pg_name (i := 8) sc_isLook.nd rfl (Or.inl rfl)) pgs_nil))))))))
      (pss_cons (ps_for PassesOwn.never rfl (pi_tup (pe_tup (pa_cons (pv 4) (pa_cons (pv 7) (pa_cons (pv 8) pa_nil))))) (pg_name (i := 9) sc_isLook.nd rfl (Or.inl rfl)) (pss_one (ps_if (pt_not (pt_val (pe_call (ok_isNumber T) (hr.mono (by decide)) rfl T.isNumber.g T.isNumber.kp T.isNumber.b .nil pass0 (pa_cons (pv 9) (pa_cons (pv 2) pa_nil))))) (pss_one (ps_ret pe_bl)) pss_nil)))
      (pss_cons (ps_if (PW.pt (pw_or (pt_cmpR op_eq (pv 4) (pv 7) (nomark _)) (pw_or (pt_cmpR op_eq (pv 4) (pv 8) (nomark _)) (pw_or (pt_cmpR op_eq (pv 7) (pv 8) (nomark _)) (pw_or1 (pt_not (pt_val (pe_call (ok_isInteger T) (hr.mono (by decide)) rfl T.isInteger.g T.isInteger.kp T.isInteger.b .nil pass0 (pa_cons (pv 5) pa_nil))))))))) (pss_one (ps_ret pe_bl)) pss_nil)
      (pss_cons (ps_if (PW.pt (pw_and (pt_cmpR op_ne (pv 5) pe_int (nomark _)) (pw_and1 (pt_cmpR op_ne (pv 5) (pe_op op_sub (pv 1) pe_int) (nomark _))))) (pss_one (ps_ret pe_bl)) pss_nil)
      (pss_one (ps_ret (pe_call (ok_isTable T) (hr.mono (by decide)) rfl T.isTable.g T.isTable.kp T.isTable.b .nil pass0 (pa_cons (pv 6) (pa_cons (pv 1) pa_nil))))))))), ?_⟩
    refine ⟨_, rfl, p, _, rfl, SqT.of hp, rfl, _, _, rfl, _, _, rfl, _, _, rfl, _, _, rfl, _, _, rfl, _, _, rfl, rfl, ?_⟩
    refine ⟨_, rfl, _, rfl, _, rfl, (by show 3 ≤ sizeLine; decide), fun pt hpt => ⟨pt, rfl, ⟨_, SqT.of upd_same⟩, for_tup (K := K) (a := pt) (xs := [.int t, .int a, .int b])
      (fun i σ H' => ∃ v9, σ = [some (.ref p), some (.int m), some (.int nc), some (.str "table"), some (.int t), some (.int s), some (.ref q), some (.int a), some (.int b), v9] ∧ H' = upd H pt (.tup [.int t, .int a, .int b])) ⟨none, rfl, rfl⟩ (fun i σ H' _ ⟨_, _, e⟩ => by rw [e]; exact SqT.of upd_same) ?_ ?_⟩⟩
    · rintro i x σ H' hx ⟨v9, rfl, rfl⟩
      obtain ⟨z, hz, rfl⟩ : ∃ z : Nat, z < nc ∧ x = .int (z : Int) := by
        match i, hx with
        | 0, hx => exact ⟨t, ht, (Option.some.inj hx).symm⟩
        | 1, hx => exact ⟨a, ha, (Option.some.inj hx).symm⟩
        | 2, hx => exact ⟨b, hb, (Option.some.inj hx).symm⟩
        | i + 3, hx => simp at hx
      exact ⟨_, rfl, _, rfl, z, nc, rfl, by omega, by omega, _, rfl, iteF ⟨_, rfl, rfl⟩⟩
    · rintro σ H' ⟨v9, rfl, rfl⟩
      have sm : Same H (upd H pt (.tup [.int t, .int a, .int b])) := Same.new hpt
      refine ⟨_, rfl, _, rfl, rfl, _, rfl, ifF (decF (nint (by omega))) ⟨_, rfl, _, rfl, rfl, _, rfl, ifF (decF (nint (by omega))) ⟨_, rfl, _, rfl, rfl, _, rfl, ifF (decF (nint (by omega))) ⟨_, rfl, s, rfl, _, rfl, iteF ?_⟩⟩⟩⟩
      have fin : FnOk P w K mg base CX0 3 T.isTable.f T.isTable.fd ["table", "modulus"] spIsTable := ok_isTable T
      by_cases h1 : s = 1
      · refine ⟨_, rfl, rfl, _, rfl, ifF (nT (decT (by rw [h1]))) (iteF ?_)⟩
        exact ⟨_, rfl, _, rfl, q, m, tb, rfl, hq.mono sm, hT, kk _ sm⟩
      · have h2 : s = m - 1 := by omega
        refine ⟨_, rfl, rfl, _, rfl, ifT (nF (decF (nint h1))) ⟨_, rfl, _, rfl, m, 1, rfl, rfl, rfl, _, rfl, ifF (nT (decT (by rw [h2]))) ?_⟩⟩
        exact ⟨_, rfl, _, rfl, q, m, tb, rfl, hq.mono sm, hT, kk _ sm⟩
/-! ### steps.py: is_step -/
def spIsStep : Sp := fun vs H Q _ => ∃ (v : V) (m : Int) (nc ni : Nat) (x : Stp), vs = [v, .int m, .int nc, .int ni] ∧ StpAt H v x ∧ OkS m nc ni x ∧ 2 ≤ m ∧ m ≤ 1000000000 ∧ ∀ H', Same H H' → Q (.bl true) H'
abbrev N_isStep : List Str := ["step", "modulus", "cells", "inputs"]
theorem sc_isStep : FnScope N_isStep ["step", "modulus", "cells", "inputs"] (defScope sIsStep) := ⟨rfl, rfl, rfl, by decide +kernel, rfl, by decide +kernel, by decide +kernel⟩
theorem ok_isStep (T : Top K mg) : FnOk P w K mg base CX0 5 T.isStep.f T.isStep.fd ["step", "modulus", "cells", "inputs"] spIsStep := by
  refine T.isStep.F.ok sc_isStep (fun vs H Q E h => ?_) (fun cdv A outer s H vs Q E hr h => ?_)
  · obtain ⟨v, m, nc, ni, x, rfl, _⟩ := h
    rfl
  · obtain ⟨v, m, nc, ni, x, rfl, hS, hO, h2, hm, kk⟩ := h
    refine ⟨_, (pss_cons (ps_if (PW.pt (pw_or (pt_not (pt_val (pe_callB call_isi rfl T.zisinstance (by decide +kernel) (pa_cons (pv 0) (pa_cons (pe_bltn (v := .ty "tuple") rfl T.ztuple (by decide +kernel) rfl) pa_nil))))) (pw_or1 (pt_cmpR op_lt (pe_callB call_len_seq rfl T.zlen (by decide +kernel) (pa_cons (pv 0) pa_nil)) pe_int (nomark _))))) (pss_one (ps_ret pe_bl)) pss_nil)
      (pss_cons (ps_if (PW.pt (pw_and (pt_cmpR op_eq (pe_ix ix_tup (pv 0) pe_int (fun _ _ => rfl)) pe_str (nomark _)) (pw_and1 (pt_cmpR op_eq (pe_callB call_len_seq rfl T.zlen (by decide +kernel) (pa_cons (pv 0) pa_nil)) pe_int (nomark _))))) (pss_one (ps_ret (pe_call (ok_isAdd T) (hr.mono (by decide)) rfl T.isAdd.g T.isAdd.kp T.isAdd.b .nil pass0 (pa_cons (pv 0) (pa_cons (pv 1) (pa_cons (pv 2) (pa_cons (pv 3) pa_nil))))))) pss_nil)
      (pss_cons (ps_if (PW.pt (pw_and (pt_cmpR op_eq (pe_ix ix_tup (pv 0) pe_int (fun _ _ => rfl)) pe_str (nomark _)) (pw_and1 (pt_cmpR op_eq (pe_callB call_len_seq rfl T.zlen (by decide +kernel) (pa_cons (pv 0) pa_nil)) pe_int (nomark _))))) (pss_cons (ps_if (PW.pt (pw_or (pt_not (pt_val (pe_call (ok_isNumber T) (hr.mono (by decide)) rfl T.isNumber.g T.isNumber.kp T.isNumber.b .nil pass0 (pa_cons (pe_ix ix_tup (pv 0) pe_int (fun _ _ => rfl)) (pa_cons (pv 2) pa_nil))))) (pw_or1 (pt_not (pt_val (pe_call (ok_isNumber T) (hr.mono (by decide)) rfl T.isNumber.g T.isNumber.kp T.isNumber.b .nil pass0 (pa_cons (pe_ix ix_tup (pv 0) pe_int (fun _ _ => rfl)) (pa_cons (pv 1) pa_nil)))))))) (pss_one (ps_ret pe_bl)) pss_nil)
          (pss_one (ps_ret (pe_cmpR op_notN (pe_call (ok_inverseOf T) (hr.mono (by decide)) rfl T.inverseOf.g T.inverseOf.kp T.inverseOf.b .nil pass0 (pa_cons (pe_ix ix_tup (pv 0) pe_int (fun _ _ => rfl)) (pa_cons (pv 1) pa_nil))) pe_non (nomark _))))) pss_nil)
      (pss_cons (ps_if (PW.pt (pw_and (pt_cmpR op_eq (pe_ix ix_tup (pv 0) pe_int (fun _ _ => rfl)) pe_str (nomark _)) (pw_and1 (pt_cmpR op_eq (pe_callB call_len_seq rfl T.zlen (by decide +kernel) (pa_cons (pv 0) pa_nil)) pe_int (nomark _))))) (pss_cons (ps_if (PW.pt (pw_or (pt_not (pt_val (pe_call (ok_isNumber T) (hr.mono (by decide)) rfl T.isNumber.g T.isNumber.kp T.isNumber.b .nil pass0 (pa_cons (pe_ix ix_tup (pv 0) pe_int (fun _ _ => rfl)) (pa_cons (pv 2) pa_nil))))) (pw_or1 (pt_not (pt_val (pe_call (ok_isNumber T) (hr.mono (by decide)) rfl T.isNumber.g T.isNumber.kp T.isNumber.b .nil pass0 (pa_cons (pe_ix ix_tup (pv 0) pe_int (fun _ _ => rfl)) (pa_cons (pv 2) pa_nil)))))))) (pss_one (ps_ret pe_bl)) pss_nil)
          (pss_one (ps_ret (pe_cmpR op_ne (pe_ix ix_tup (pv 0) pe_int (fun _ _ => rfl)) (pe_ix ix_tup (pv 0) pe_int (fun _ _ => rfl)) (nomark _))))) pss_nil)
      (pss_one (ps_ret (pe_and (pe_cmpR op_eq (pe_ix ix_tup (pv 0) pe_int (fun _ _ => rfl)) pe_str (nomark _)) (pe_and (pe_cmpR op_eq (pe_callB call_len_seq rfl T.zlen (by decide +kernel) (pa_cons (pv 0) pa_nil)) pe_int (nomark _)) (pe_one (pe_call (ok_isLook T) (hr.mono (by decide)) rfl T.isLook.g T.isLook.kp T.isLook.b .nil pass0 (pa_cons (pv 0) (pa_cons (pv 1) (pa_cons (pv 2) pa_nil))))))))))))), ?_⟩
    cases x with
    | add t c fs =>
      obtain ⟨p, q, vs, rfl, hp, hq, hF⟩ := id hS
      refine ⟨_, rfl, _, _, _, _, true, rfl, .ty "tuple", .base (.tup hp), kit_ty (by decide +kernel), true, rfl, iteF ?_⟩
      refine ⟨_, rfl, p, _, rfl, .inr (SqT.of hp), _, 3, rfl, rfl, _, rfl, ifF (decide_eq_false (show ¬ (4 : Int) < 3 by decide)) ?_⟩
      refine ⟨_, rfl, p, _, 0, .str "add", rfl, rfl, SqT.of hp, atI_nat (j := 0) rfl, rfl, _, rfl, ifT (decT rfl) ?_⟩
      refine ⟨_, rfl, p, _, rfl, .inr (SqT.of hp), rfl, _, rfl, ifT (decT rfl) ?_⟩
      exact ⟨_, rfl, _, rfl, _, rfl, _, rfl, _, m, nc, ni, t, c, fs, rfl, hS, hO, kk _ (Same.refl _)⟩
    | scale t u =>
      obtain ⟨p, rfl, hp⟩ := id hS
      obtain ⟨ht, u0, u1, hi⟩ := hO
      refine ⟨_, rfl, _, _, _, _, true, rfl, .ty "tuple", .base (.tup hp), kit_ty (by decide +kernel), true, rfl, iteF ?_⟩
      refine ⟨_, rfl, p, _, rfl, .inr (SqT.of hp), _, 3, rfl, rfl, _, rfl, ifF (decide_eq_false (show ¬ (3 : Int) < 3 by decide)) ?_⟩
      refine ⟨_, rfl, p, _, 0, .str "scale", rfl, rfl, SqT.of hp, atI_nat (j := 0) rfl, rfl, _, rfl, ifF (decF xsa) (iteF ?_)⟩
      refine ⟨_, rfl, p, _, 0, .str "scale", rfl, rfl, SqT.of hp, atI_nat (j := 0) rfl, rfl, _, rfl, ifT (decT rfl) ?_⟩
      refine ⟨_, rfl, p, _, rfl, .inr (SqT.of hp), rfl, _, rfl, ifT (decT rfl) ?_⟩
      refine ⟨_, rfl, p, _, 1, .int t, rfl, rfl, SqT.of hp, atI_nat (j := 1) rfl, _, rfl, t, nc, rfl, by omega, by omega, _, rfl, iteF ?_⟩
      refine ⟨_, rfl, p, _, 2, .int u, rfl, rfl, SqT.of hp, atI_nat (j := 2) rfl, _, rfl, u, m, rfl, u0, u1, _, rfl, iteF ?_⟩
      refine ⟨_, rfl, p, _, 2, .int u, rfl, rfl, SqT.of hp, atI_nat (j := 2) rfl, _, rfl, u, m, rfl, h2, hm, fun r H1 r0 r1 r2 s1 => ⟨rfl, ?_⟩, fun hn => absurd hi hn⟩
      exact kk _ s1
    | swap a b =>
      obtain ⟨p, rfl, hp⟩ := id hS
      obtain ⟨ha, hb, hab⟩ := hO
      refine ⟨_, rfl, _, _, _, _, true, rfl, .ty "tuple", .base (.tup hp), kit_ty (by decide +kernel), true, rfl, iteF ?_⟩
      refine ⟨_, rfl, p, _, rfl, .inr (SqT.of hp), _, 3, rfl, rfl, _, rfl, ifF (decide_eq_false (show ¬ (3 : Int) < 3 by decide)) ?_⟩
      refine ⟨_, rfl, p, _, 0, .str "swap", rfl, rfl, SqT.of hp, atI_nat (j := 0) rfl, rfl, _, rfl, ifF (decF xwa) (iteF ?_)⟩
      refine ⟨_, rfl, p, _, 0, .str "swap", rfl, rfl, SqT.of hp, atI_nat (j := 0) rfl, rfl, _, rfl, ifF (decF xws) (iteF ?_)⟩
      refine ⟨_, rfl, p, _, 0, .str "swap", rfl, rfl, SqT.of hp, atI_nat (j := 0) rfl, rfl, _, rfl, ifT (decT rfl) ?_⟩
      refine ⟨_, rfl, p, _, rfl, .inr (SqT.of hp), rfl, _, rfl, ifT (decT rfl) ?_⟩
      refine ⟨_, rfl, p, _, 1, .int a, rfl, rfl, SqT.of hp, atI_nat (j := 1) rfl, _, rfl, a, nc, rfl, by omega, by omega, _, rfl, iteF ?_⟩
      refine ⟨_, rfl, p, _, 2, .int b, rfl, rfl, SqT.of hp, atI_nat (j := 2) rfl, _, rfl, b, nc, rfl, by omega, by omega, _, rfl, iteF ?_⟩
      refine ⟨_, rfl, p, _, 1, .int a, rfl, rfl, SqT.of hp, atI_nat (j := 1) rfl, _, rfl, p, _, 2, .int b, rfl, rfl, SqT.of hp, atI_nat (j := 2) rfl, rfl, ?_⟩
      have e : (!decide (V.int (a : Int) = V.int (b : Int))) = true := nF (decF (nint (by omega)))
      show Q (.bl (!decide (V.int (a : Int) = V.int (b : Int)))) H
      rw [e]
      exact kk _ (Same.refl _)
    | look t s tb a b =>
      obtain ⟨p, q, rfl, hp, hq⟩ := id hS
      refine ⟨_, rfl, _, _, _, _, true, rfl, .ty "tuple", .base (.tup hp), kit_ty (by decide +kernel), true, rfl, iteF ?_⟩
      refine ⟨_, rfl, p, _, rfl, .inr (SqT.of hp), _, 3, rfl, rfl, _, rfl, ifF (decide_eq_false (show ¬ (6 : Int) < 3 by decide)) ?_⟩
      refine ⟨_, rfl, p, _, 0, .str "table", rfl, rfl, SqT.of hp, atI_nat (j := 0) rfl, rfl, _, rfl, ifF (decF xta) (iteF ?_)⟩
      refine ⟨_, rfl, p, _, 0, .str "table", rfl, rfl, SqT.of hp, atI_nat (j := 0) rfl, rfl, _, rfl, ifF (decF xts) (iteF ?_)⟩
      refine ⟨_, rfl, p, _, 0, .str "table", rfl, rfl, SqT.of hp, atI_nat (j := 0) rfl, rfl, _, rfl, ifF (decF xtw) (iteF ?_)⟩
      refine ⟨_, rfl, p, _, 0, .str "table", rfl, rfl, SqT.of hp, atI_nat (j := 0) rfl, rfl, true, rfl, iteT ?_⟩
      refine ⟨_, rfl, p, _, rfl, .inr (SqT.of hp), rfl, true, rfl, iteT ?_⟩
      exact ⟨_, rfl, _, rfl, _, rfl, _, m, nc, ni, t, s, tb, a, b, rfl, hS, hO, kk⟩
end
/-! ### what a step does to the cells -/
def facV (M g : List Int) (f : Bool × Nat) : Int := if f.1 = true then M.getD f.2 0 else g.getD f.2 0
def totV (m : Int) (M g : List Int) (c : Int) (fs : List (Bool × Nat)) : Int := fs.foldl (fun a f => a * facV M g f % m) c
noncomputable def doS (m : Int) (g : List Int) : Stp → List Int → List Int
  | .add t c fs, M => M.set t ((M.getD t 0 + totV m M g c fs) % m)
  | .scale t u, M => M.set t (M.getD t 0 * u % m)
  | .swap a b, M => (M.set a (M.getD b 0)).set b (M.getD a 0)
  | .look t s tb a b, M => M.set t ((M.getD t 0 + s * itp tb m (M.getD a 0) (M.getD b 0)) % m)
noncomputable def invS (m : Int) : Stp → Stp
  | .add t c fs => .add t (-c % m) fs
  | .scale t u => .scale t (invZ u m)
  | .swap a b => .swap a b
  | .look t s tb a b => .look t (m - s) tb a b
def Rng (m : Int) (M : List Int) : Prop := ∀ x ∈ M, 0 ≤ x ∧ x < m
theorem Rng.at_ {m : Int} {M : List Int} (h : Rng m M) {i : Nat} (hi : i < M.length) : 0 ≤ M.getD i 0 ∧ M.getD i 0 < m := by
  rw [List.getD_eq_getElem?_getD, List.getElem?_eq_getElem hi]
  exact h _ (List.getElem_mem hi)
theorem Rng.set {m : Int} {M : List Int} (h : Rng m M) {i : Nat} {z : Int} (h0 : 0 ≤ z) (h1 : z < m) : Rng m (M.set i z) := fun x hx => by
  rcases List.mem_or_eq_of_mem_set hx with q | q
  · exact h x q
  · rw [q]; exact ⟨h0, h1⟩
theorem md {m z : Int} (hm : 2 ≤ m) : 0 ≤ z % m ∧ z % m < m := ⟨Int.emod_nonneg _ (by omega), Int.emod_lt_of_pos _ (by omega)⟩
theorem doS_len {m : Int} {g : List Int} {M : List Int} : ∀ x : Stp, (doS m g x M).length = M.length
  | .add _ _ _ => List.length_set ..
  | .scale _ _ => List.length_set ..
  | .swap _ _ => by show ((M.set _ _).set _ _).length = _; rw [List.length_set, List.length_set]
  | .look _ _ _ _ _ => List.length_set ..
theorem doS_rng {m : Int} {nc ni : Nat} {g M : List Int} (hm : 2 ≤ m) (hM : Rng m M) (hl : M.length = nc) : ∀ x : Stp, OkS m nc ni x → Rng m (doS m g x M)
  | .add _ _ _, _ => hM.set (md hm).1 (md hm).2
  | .scale _ _, _ => hM.set (md hm).1 (md hm).2
  | .swap a b, ⟨ha, hb, _⟩ => (hM.set (hM.at_ (by omega)).1 (hM.at_ (by omega)).2).set (hM.at_ (by omega)).1 (hM.at_ (by omega)).2
  | .look _ _ _ _ _, _ => hM.set (md hm).1 (md hm).2
theorem invS_ok {m : Int} {nc ni : Nat} (hm : 2 ≤ m) : ∀ x : Stp, OkS m nc ni x → OkS m nc ni (invS m x)
  | .add _ _ _, ⟨ht, _, _, h3, hf⟩ => ⟨ht, (md hm).1, (md hm).2, h3, hf⟩
  | .scale t u, ⟨ht, _, _, hi⟩ => by
    obtain ⟨a, b, c⟩ := invZ_spec (show 1 < m by omega) hi
    exact ⟨ht, a, b, u, by rw [Int.mul_comm]; exact c⟩
  | .swap _ _, h => h
  | .look _ _ _ _ _, ⟨h1, h2, h3, h4, h5, h6, hs, h8, h9⟩ => ⟨h1, h2, h3, h4, h5, h6, by omega, h8, h9⟩
/-! the inverse takes a step back -/
theorem getD_set_same {M : List Int} {i : Nat} {z : Int} (h : i < M.length) : (M.set i z).getD i 0 = z := by
  rw [List.getD_eq_getElem?_getD, List.getElem?_set_self h]
  rfl
theorem getD_set_ne {M : List Int} {i j : Nat} {z : Int} (h : i ≠ j) : (M.set i z).getD j 0 = M.getD j 0 := by
  rw [List.getD_eq_getElem?_getD, List.getElem?_set_ne h, List.getD_eq_getElem?_getD]
theorem set_back {M : List Int} {i : Nat} {z : Int} (h : i < M.length) (e : z = M.getD i 0) : M.set i z = M := by
  apply List.ext_getElem?
  intro j
  by_cases c : i = j
  · subst c
    rw [List.getElem?_set_self h, e, List.getD_eq_getElem?_getD, List.getElem?_eq_getElem h]
    rfl
  · rw [List.getElem?_set_ne c]
theorem emod_back {m a d : Int} (hm : 2 ≤ m) (h0 : 0 ≤ a) (h1 : a < m) {e : Int} (h : m ∣ d + e) : ((a + d) % m + e) % m = a := by
  obtain ⟨c, hc⟩ := h
  rw [Int.add_emod, Int.emod_emod, ← Int.add_emod]
  have q : a + d + e = a + m * c := by omega
  rw [q, Int.add_mul_emod_self_left, Int.emod_eq_of_lt h0 h1]
theorem totV_congr {m : Int} {M M' g : List Int} {c : Int} : ∀ {fs : List (Bool × Nat)}, (∀ f ∈ fs, facV M g f = facV M' g f) → totV m M g c fs = totV m M' g c fs := by
  intro fs
  unfold totV
  induction fs generalizing c with
  | nil => intro _; rfl
  | cons f r ih =>
    intro h
    show List.foldl _ (c * facV M g f % m) r = List.foldl _ (c * facV M' g f % m) r
    rw [h f List.mem_cons_self]
    exact ih fun f' hf' => h f' (List.mem_cons_of_mem _ hf')
theorem totV_dvd {m : Int} {M g : List Int} : ∀ {fs : List (Bool × Nat)} {c d : Int}, m ∣ c + d → m ∣ totV m M g c fs + totV m M g d fs := by
  intro fs
  unfold totV
  induction fs with
  | nil => intro c d h; exact h
  | cons f r ih =>
    intro c d h
    refine ih ?_
    obtain ⟨k, hk⟩ := h
    have e1 := Int.emod_add_mul_ediv (c * facV M g f) m
    have e2 := Int.emod_add_mul_ediv (d * facV M g f) m
    have e3 : c * facV M g f + d * facV M g f = m * (k * facV M g f) := by rw [← Int.add_mul, hk, Int.mul_assoc]
    refine ⟨k * facV M g f - c * facV M g f / m - d * facV M g f / m, ?_⟩
    show c * facV M g f % m + d * facV M g f % m = _
    rw [Int.mul_sub, Int.mul_sub]
    omega
theorem neg_dvd {m c : Int} : m ∣ c + -c % m := by
  have e := Int.emod_add_mul_ediv (-c) m
  refine ⟨-(-c / m), ?_⟩
  rw [Int.mul_neg]
  omega
theorem doS_inv {m : Int} {nc ni : Nat} {g M : List Int} (hm : 2 ≤ m) (hM : Rng m M) (hl : M.length = nc) : ∀ x : Stp, OkS m nc ni x → doS m g (invS m x) (doS m g x M) = M
  | .add t c fs, ⟨ht, c0, c1, h3, hf⟩ => by
    have tl : t < M.length := by omega
    show (M.set t _).set t (((M.set t _).getD t 0 + totV m (M.set t _) g (-c % m) fs) % m) = M
    rw [List.set_set, getD_set_same tl]
    refine set_back tl ?_
    have e : ∀ z, totV m (M.set t z) g (-c % m) fs = totV m M g (-c % m) fs := fun z => totV_congr fun f hff => by
      unfold facV
      by_cases b : f.1 = true
      · rw [if_pos b, if_pos b, getD_set_ne ((hf f hff).c b).2.symm]
      · rw [if_neg b, if_neg b]
    rw [e]
    exact emod_back hm (hM.at_ tl).1 (hM.at_ tl).2 (totV_dvd neg_dvd)
  | .scale t u, ⟨ht, u0, u1, hi⟩ => by
    have tl : t < M.length := by omega
    obtain ⟨a, b, c⟩ := invZ_spec (show 1 < m by omega) hi
    show (M.set t _).set t ((M.set t _).getD t 0 * invZ u m % m) = M
    rw [List.set_set, getD_set_same tl]
    refine set_back tl ?_
    obtain ⟨r0, r1⟩ := hM.at_ tl
    have e : (M.getD t 0 * u) % m * invZ u m % m = M.getD t 0 % m := by
      rw [Int.mul_emod, Int.emod_emod, ← Int.mul_emod, Int.mul_assoc, Int.mul_emod, c, Int.mul_one, Int.emod_emod]
    rw [e, Int.emod_eq_of_lt r0 r1]
  | .swap a b, ⟨ha, hb, hab⟩ => by
    have al : a < M.length := by omega
    have bl : b < M.length := by omega
    show (((M.set a (M.getD b 0)).set b (M.getD a 0)).set a (((M.set a (M.getD b 0)).set b (M.getD a 0)).getD b 0)).set b (((M.set a (M.getD b 0)).set b (M.getD a 0)).getD a 0) = M
    rw [getD_set_same (by rw [List.length_set]; exact bl), getD_set_ne hab.symm, getD_set_same al]
    apply List.ext_getElem?
    intro j
    by_cases jb : b = j
    · subst jb
      rw [List.getElem?_set_self (by simp only [List.length_set]; exact bl), List.getD_eq_getElem?_getD, List.getElem?_eq_getElem bl]
      rfl
    · rw [List.getElem?_set_ne jb]
      by_cases ja : a = j
      · subst ja
        rw [List.getElem?_set_self (by simp only [List.length_set]; exact al), List.getD_eq_getElem?_getD, List.getElem?_eq_getElem al]
        rfl
      · rw [List.getElem?_set_ne ja, List.getElem?_set_ne jb, List.getElem?_set_ne ja]
  | .look t s tb a b, ⟨ht, ha, hb, hta, htb, hab, hs, hp, hT⟩ => by
    have tl : t < M.length := by omega
    show (M.set t _).set t (((M.set t _).getD t 0 + (m - s) * itp tb m ((M.set t _).getD a 0) ((M.set t _).getD b 0)) % m) = M
    rw [List.set_set, getD_set_same tl, getD_set_ne hta, getD_set_ne htb]
    refine set_back tl ?_
    refine emod_back hm (hM.at_ tl).1 (hM.at_ tl).2 ⟨itp tb m (M.getD a 0) (M.getD b 0), ?_⟩
    rw [← Int.add_mul]
    congr 1
    omega
theorem invS_inv {m : Int} {nc ni : Nat} (hm : 2 ≤ m) : ∀ x : Stp, OkS m nc ni x → invS m (invS m x) = x
  | .add t c fs, ⟨ht, c0, c1, h3, hf⟩ => by
    show Stp.add t (-(-c % m) % m) fs = .add t c fs
    congr 1
    have h : m ∣ (-(-c % m)) - c := by
      obtain ⟨k, hk⟩ := neg_dvd (m := m) (c := c)
      exact ⟨-k, by rw [Int.mul_neg]; omega⟩
    have e : -(-c % m) = c + m * ((-(-c % m) - c) / m) := by
      have := Int.mul_ediv_cancel' h
      omega
    rw [e, Int.add_mul_emod_self_left, Int.emod_eq_of_lt c0 c1]
  | .scale t u, ⟨ht, u0, u1, hi⟩ => by
    obtain ⟨a, b, c⟩ := invZ_spec (show 1 < m by omega) hi
    show Stp.scale t (invZ (invZ u m) m) = .scale t u
    rw [invZ_eq (show 1 < m by omega) u0 u1 (by rw [Int.mul_comm]; exact c)]
  | .swap _ _, _ => rfl
  | .look t s tb a b, _ => by
    show Stp.look t (m - (m - s)) tb a b = .look t s tb a b
    rw [show m - (m - s) = s by omega]
theorem atM {M : List Int} {i : Nat} (h : i < M.length) : atI (M.map V.int) (i : Int) = some (.int (M.getD i 0)) := by
  refine atI_nat (j := i) ?_
  rw [List.getElem?_map, List.getElem?_eq_getElem h, List.getD_eq_getElem?_getD, List.getElem?_eq_getElem h]
  rfl
theorem ixn {n i : Nat} (h : i < n) : ixN n (i : Int) = some i := by
  unfold ixN
  rw [if_pos (by omega), if_pos (by omega)]
  rfl
theorem ixm {M : List Int} {i : Nat} (h : i < M.length) : ixN (M.map V.int).length (i : Int) = some i := ixn (by rw [List.length_map]; exact h)
/-- all but what stands at one address is as it was -/
def But (a : Addr) (H H' : Hp) : Prop := ∀ b o, b ≠ a → H b = some o → H' b = some o
theorem But.refl (a : Addr) (H : Hp) : But a H H := fun _ _ _ h => h
theorem But.trans {a : Addr} {H H1 H2 : Hp} (x : But a H H1) (y : But a H1 H2) : But a H H2 := fun b o n h => y b o n (x b o n h)
theorem But.upd {a : Addr} {H H1 : Hp} {o : HO} (x : But a H H1) : But a H (upd H1 a o) := fun b u n h => by rw [upd_ne n]; exact x b u n h
theorem But.of {a : Addr} {H H1 : Hp} (x : Same H H1) : But a H H1 := fun b u _ h => x b u h
theorem map_set_int {M : List Int} {i : Nat} {z : Int} : (M.map V.int).set i (.int z) = (M.set i z).map V.int := by rw [List.map_set]
section
variable {P : Program} {w : World} {K : PySem.W.Frag} {mg : Str → Option Value} {base : Heap}
/-! ### steps.py: inverse_step -/
def spInverseStep : Sp := fun vs H Q _ => ∃ (v : V) (m : Int) (nc ni : Nat) (x : Stp), vs = [v, .int m] ∧ StpAt H v x ∧ OkS m nc ni x ∧ 2 ≤ m ∧ m ≤ 1000000000 ∧ ∀ v' H', Same H H' → StpAt H' v' (invS m x) → Q v' H'
abbrev N_inverseStep : List Str := ["step", "modulus"]
theorem sc_inverseStep : FnScope N_inverseStep ["step", "modulus"] (defScope sInverseStep) := ⟨rfl, rfl, rfl, by decide +kernel, rfl, by decide +kernel, by decide +kernel⟩
theorem ok_inverseStep (T : Top K mg) : FnOk P w K mg base CX0 2 T.inverseStep.f T.inverseStep.fd ["step", "modulus"] spInverseStep := by
  refine T.inverseStep.F.ok sc_inverseStep (fun vs H Q E h => ?_) (fun cdv A outer s H vs Q E hr h => ?_)
  · obtain ⟨v, m, nc, ni, x, rfl, _⟩ := h
    rfl
  · obtain ⟨v, m, nc, ni, x, rfl, hS, hO, h2, hm, kk⟩ := h
    refine ⟨_, (pss_cons (ps_if (pt_cmpR op_eq (pe_ix ix_tup (pv 0) pe_int (fun _ _ => rfl)) pe_str (nomark _)) (pss_one (ps_ret (pe_tup (pa_cons pe_str (pa_cons (pe_ix ix_tup (pv 0) pe_int (fun _ _ => rfl)) (pa_cons (pe_op op_mod (pe_un un_neg (pe_ix ix_tup (pv 0) pe_int (fun _ _ => rfl))) (pv 1)) (pa_cons (pe_ix ix_tup (pv 0) pe_int (fun _ _ => rfl)) pa_nil))))))) pss_nil)
      (pss_cons (ps_if (pt_cmpR op_eq (pe_ix ix_tup (pv 0) pe_int (fun _ _ => rfl)) pe_str (nomark _)) (pss_one (ps_ret (pe_tup (pa_cons pe_str (pa_cons (pe_ix ix_tup (pv 0) pe_int (fun _ _ => rfl)) (pa_cons (pe_call (ok_inverseOf T) (hr.mono (by decide)) rfl T.inverseOf.g T.inverseOf.kp T.inverseOf.b .nil pass0 (pa_cons (pe_ix ix_tup (pv 0) pe_int (fun _ _ => rfl)) (pa_cons (pv 1) pa_nil))) pa_nil)))))) pss_nil)
      (pss_cons (ps_if (pt_cmpR op_eq (pe_ix ix_tup (pv 0) pe_int (fun _ _ => rfl)) pe_str (nomark _)) (pss_one (ps_ret (pe_op op_catT (pe_tup (pa_cons pe_str (pa_cons (pe_ix ix_tup (pv 0) pe_int (fun _ _ => rfl)) (pa_cons (pe_op op_sub (pv 1) (pe_ix ix_tup (pv 0) pe_int (fun _ _ => rfl))) pa_nil)))) (pe_slice sl_tup (pv 0) (po_some pe_int) po_none)))) pss_nil)
      (pss_one (ps_ret (pv 0)))))), ?_⟩
    cases x with
    | add t c fs =>
      obtain ⟨p, q, vs, rfl, hp, hq, hF⟩ := id hS
      refine ⟨_, rfl, p, _, 0, .str "add", rfl, rfl, SqT.of hp, atI_nat (j := 0) rfl, rfl, _, rfl, ifT (decT rfl) ?_⟩
      refine ⟨_, rfl, p, _, 1, .int t, rfl, rfl, SqT.of hp, atI_nat (j := 1) rfl, _, rfl, p, _, 2, .int c, rfl, rfl, SqT.of hp, atI_nat (j := 2) rfl, c, rfl, _, rfl, _, m, rfl, rfl, (by show (0 : Int) < m; omega), _, rfl, p, _, 3, .ref q, rfl, rfl, SqT.of hp, atI_nat (j := 3) rfl, (by show 4 ≤ sizeLine; decide), fun l hl => ?_⟩
      have sm : Same H (upd H l (.tup [.str "add", .int t, .int (-c % m), .ref q])) := Same.new hl
      exact kk _ _ sm ⟨l, q, vs, rfl, upd_same, sm _ _ hq, pd_mono (fun _ _ => FacAt.mono sm) hF⟩
    | scale t u =>
      obtain ⟨p, rfl, hp⟩ := id hS
      obtain ⟨ht, u0, u1, hi⟩ := hO
      refine ⟨_, rfl, p, _, 0, .str "scale", rfl, rfl, SqT.of hp, atI_nat (j := 0) rfl, rfl, _, rfl, ifF (decF xsa) ?_⟩
      refine ⟨_, rfl, p, _, 0, .str "scale", rfl, rfl, SqT.of hp, atI_nat (j := 0) rfl, rfl, _, rfl, ifT (decT rfl) ?_⟩
      refine ⟨_, rfl, p, _, 1, .int t, rfl, rfl, SqT.of hp, atI_nat (j := 1) rfl, _, rfl, p, _, 2, .int u, rfl, rfl, SqT.of hp, atI_nat (j := 2) rfl, _, rfl, u, m, rfl, h2, hm, fun r H1 r0 r1 r2 s1 => ?_, fun hn => absurd hi hn⟩
      refine ⟨by show 3 ≤ sizeLine; decide, fun l hl => ?_⟩
      refine kk _ _ (s1.newer hl) ⟨l, rfl, ?_⟩
      rw [upd_same, invZ_eq (show 1 < m by omega) r0 r1 r2]
    | swap a b =>
      obtain ⟨p, rfl, hp⟩ := id hS
      refine ⟨_, rfl, p, _, 0, .str "swap", rfl, rfl, SqT.of hp, atI_nat (j := 0) rfl, rfl, _, rfl, ifF (decF xwa) ?_⟩
      refine ⟨_, rfl, p, _, 0, .str "swap", rfl, rfl, SqT.of hp, atI_nat (j := 0) rfl, rfl, _, rfl, ifF (decF xws) ?_⟩
      refine ⟨_, rfl, p, _, 0, .str "swap", rfl, rfl, SqT.of hp, atI_nat (j := 0) rfl, rfl, _, rfl, ifF (decF xwt) ?_⟩
      exact ⟨_, rfl, kk _ _ (Same.refl _) hS⟩
    | look t s tb a b =>
      obtain ⟨p, q, rfl, hp, hq⟩ := id hS
      refine ⟨_, rfl, p, _, 0, .str "table", rfl, rfl, SqT.of hp, atI_nat (j := 0) rfl, rfl, _, rfl, ifF (decF xta) ?_⟩
      refine ⟨_, rfl, p, _, 0, .str "table", rfl, rfl, SqT.of hp, atI_nat (j := 0) rfl, rfl, _, rfl, ifF (decF xts) ?_⟩
      refine ⟨_, rfl, p, _, 0, .str "table", rfl, rfl, SqT.of hp, atI_nat (j := 0) rfl, rfl, _, rfl, ifT (decT rfl) ?_⟩
      refine ⟨_, rfl, p, _, 1, .int t, rfl, rfl, SqT.of hp, atI_nat (j := 1) rfl, _, rfl, _, rfl, p, _, 2, .int s, rfl, rfl, SqT.of hp, atI_nat (j := 2) rfl, m, s, rfl, rfl, (by show 3 ≤ sizeLine; decide), fun l hl => ?_⟩
      have s1 : Same H (upd H l (.tup [.str "table", .int t, .int (m - s)])) := Same.new hl
      refine ⟨_, rfl, 3, rfl, p, _, rfl, SqT.of (s1 _ _ hp), (show ¬ (HT.sIx 6 0 (some 3) = 0 ∧ HT.sIx 6 6 none = 6) by decide), fun l2 hl2 => ?_⟩
      have s2 : Same (upd H l (.tup [.str "table", .int t, .int (m - s)])) (upd (upd H l (.tup [.str "table", .int t, .int (m - s)])) l2 (.tup [.ref q, .int a, .int b])) := Same.new hl2
      refine ⟨l, l2, [.str "table", .int t, .int (m - s)], [.ref q, .int a, .int b], rfl, rfl, SqT.of (s2 _ _ upd_same), SqT.of upd_same, (fun z => nomatch z), (by show 6 ≤ sizeLine; decide), (fun z => nomatch z), fun _ l3 hl3 => ?_⟩
      have s3 := (s1.trans s2).newer (o := .tup [.str "table", .int t, .int (m - s), .ref q, .int a, .int b]) hl3
      exact kk _ _ s3 ⟨l3, q, rfl, upd_same, hq.mono s3⟩
/-! ### steps.py: perform -/
def spPerform (K : PySem.W.Frag) : Sp := fun vs H Q _ => ∃ (v : V) (me gv : Addr) (m : Int) (nc ni : Nat) (x : Stp) (M g : List Int), vs = [v, .ref me, .ref gv, .int m] ∧ StpAt H v x ∧ OkS m nc ni x ∧ H me = some (.lst (M.map V.int)) ∧
  SqL K H gv (g.map V.int) ∧ M.length = nc ∧ g.length = ni ∧ Rng m M ∧ 2 ≤ m ∧ m ≤ 1000000000 ∧ ∀ H', H' me = some (.lst ((doS m g x M).map V.int)) → But me H H' → Q .non H'
theorem totV_step {m : Int} {M g : List Int} {c : Int} {fs : List (Bool × Nat)} {i : Nat} {f : Bool × Nat} (h : fs[i]? = some f) : totV m M g c (fs.take (i + 1)) = totV m M g c (fs.take i) * facV M g f % m := fold_take _ _ h
theorem totV_nn {m : Int} (hm : 2 ≤ m) {M g : List Int} : ∀ {fs : List (Bool × Nat)} {c : Int}, 0 ≤ c → c < m → 0 ≤ totV m M g c fs ∧ totV m M g c fs < m
  | [], _, h0, h1 => ⟨h0, h1⟩
  | f :: r, c, _, _ => totV_nn hm (fs := r) (c := c * facV M g f % m) (md hm).1 (md hm).2
abbrev N_perform : List Str := ["step", "memory", "given", "modulus", "total", "kind", "index", "kept", "value"]
theorem sc_perform : FnScope N_perform ["step", "memory", "given", "modulus"] (defScope sPerform) := ⟨rfl, rfl, rfl, by decide +kernel, rfl, by decide +kernel, by decide +kernel⟩
theorem ok_perform (T : Top K mg) : FnOk P w K mg base CX0 4 T.perform.f T.perform.fd ["step", "memory", "given", "modulus"] (spPerform K) := by
  refine T.perform.F.ok sc_perform (fun vs H Q E h => ?_) (fun cdv A outer s H vs Q E hr h => ?_)
  · obtain ⟨v, me, gv, m, nc, ni, x, M, g, rfl, _⟩ := h
    rfl
  · obtain ⟨v, me, gv, m, nc, ni, x, M, g, rfl, hS, hO, hM, hg, lM, lg, rM, h2, hm, kk⟩ := h
    refine ⟨_, (pss_one (ps_if (pt_cmpR op_eq (pe_ix ix_tup (pv 0) pe_int (fun _ _ => rfl)) pe_str (nomark _)) (pss_cons (ps_set (i := 4) sc_perform.nd rfl (Or.inl rfl) (pe_ix ix_tup (pv 0) pe_int (fun _ _ => rfl)))
          (pss_cons (ps_for PassesOwn.never rfl (pi_tup (pe_ix ix_tup (pv 0) pe_int (fun _ _ => rfl))) (pg_tup rfl (pgs_cons (pg_name (i := 5) sc_perform.nd rfl (Or.inl rfl)) (pgs_cons (pg_name (i := 6) sc_perform.nd rfl (Or.inl rfl)) pgs_nil))) (pss_one (ps_set (i := 4) sc_perform.nd rfl (Or.inl rfl) (pe_op op_mod (pe_op op_mul (pv 4) (pe_ifExp (pt_cmpR op_eq (pv 5) pe_str (nomark _)) (pe_ix ix_list (pv 1) (pv 6) (fun _ _ => rfl)) (pe_ix ix_list (pv 2) (pv 6) (fun _ _ => rfl)))) (pv 3)))))
          (pss_one (ps_asg (pe_op op_mod (pe_op op_add (pe_ix ix_list (pv 1) (pe_ix ix_tup (pv 0) pe_int (fun _ _ => rfl)) (fun _ _ => rfl)) (pv 4)) (pv 3)) (pg_sub (pv 1) (pe_ix ix_tup (pv 0) pe_int (fun _ _ => rfl)) set_list))))) (pss_one (ps_if (pt_cmpR op_eq (pe_ix ix_tup (pv 0) pe_int (fun _ _ => rfl)) pe_str (nomark _)) (pss_one (ps_asg (pe_op op_mod (pe_op op_mul (pe_ix ix_list (pv 1) (pe_ix ix_tup (pv 0) pe_int (fun _ _ => rfl)) (fun _ _ => rfl)) (pe_ix ix_tup (pv 0) pe_int (fun _ _ => rfl))) (pv 3)) (pg_sub (pv 1) (pe_ix ix_tup (pv 0) pe_int (fun _ _ => rfl)) set_list))) (pss_one (ps_if (pt_cmpR op_eq (pe_ix ix_tup (pv 0) pe_int (fun _ _ => rfl)) pe_str (nomark _)) (pss_cons (ps_set (i := 7) sc_perform.nd rfl (Or.inl rfl) (pe_ix ix_list (pv 1) (pe_ix ix_tup (pv 0) pe_int (fun _ _ => rfl)) (fun _ _ => rfl)))
                  (pss_cons (ps_asg (pe_ix ix_list (pv 1) (pe_ix ix_tup (pv 0) pe_int (fun _ _ => rfl)) (fun _ _ => rfl)) (pg_sub (pv 1) (pe_ix ix_tup (pv 0) pe_int (fun _ _ => rfl)) set_list))
                  (pss_one (ps_asg (pv 7) (pg_sub (pv 1) (pe_ix ix_tup (pv 0) pe_int (fun _ _ => rfl)) set_list))))) (pss_cons (ps_set (i := 8) sc_perform.nd rfl (Or.inl rfl) (pe_call (ok_interpolate T) (hr.mono (by decide)) rfl T.interpolate.g T.interpolate.kp T.interpolate.b .nil pass0 (pa_cons (pe_ix ix_tup (pv 0) pe_int (fun _ _ => rfl)) (pa_cons (pv 3) (pa_cons (pe_ix ix_list (pv 1) (pe_ix ix_tup (pv 0) pe_int (fun _ _ => rfl)) (fun _ _ => rfl)) (pa_cons (pe_ix ix_list (pv 1) (pe_ix ix_tup (pv 0) pe_int (fun _ _ => rfl)) (fun _ _ => rfl)) pa_nil))))))
                  (pss_one (ps_asg (pe_op op_mod (pe_op op_add (pe_ix ix_list (pv 1) (pe_ix ix_tup (pv 0) pe_int (fun _ _ => rfl)) (fun _ _ => rfl)) (pe_op op_mul (pe_ix ix_tup (pv 0) pe_int (fun _ _ => rfl)) (pv 8))) (pv 3)) (pg_sub (pv 1) (pe_ix ix_tup (pv 0) pe_int (fun _ _ => rfl)) set_list)))))))))), ?_⟩
    have hML : SqL K H me (M.map V.int) := SqL.of hM
    cases x with
    | add t c fs =>
      obtain ⟨p, q, vs, rfl, hp, hq, hF⟩ := id hS
      obtain ⟨ht, c0, c1, l3, hf⟩ := hO
      have tl : t < M.length := by omega
      refine ⟨_, rfl, p, _, 0, .str "add", rfl, rfl, SqT.of hp, atI_nat (j := 0) rfl, rfl, _, rfl, ifT (decT rfl) ?_⟩
      refine ⟨_, rfl, p, _, 2, .int c, rfl, rfl, SqT.of hp, atI_nat (j := 2) rfl, ?_⟩
      refine ⟨_, rfl, p, _, 3, .ref q, rfl, rfl, SqT.of hp, atI_nat (j := 3) rfl, q, rfl, ⟨_, SqT.of hq⟩, for_tup (K := K) (a := q) (xs := vs)
        (fun i σ H' => ∃ v5 v6, σ = [some (.ref p), some (.ref me), some (.ref gv), some (.int m), some (.int (totV m M g c (fs.take i))), v5, v6, none, none] ∧ H' = H) ⟨none, none, rfl, rfl⟩ (fun i σ H' _ ⟨_, _, _, e⟩ => by rw [e]; exact SqT.of hq) ?_ ?_⟩
      · rintro i y σ H' hy ⟨v5, v6, rfl, rfl⟩
        obtain ⟨⟨b, k⟩, hf1, a, rfl, ha⟩ := pd_get hF hy
        have okf := hf _ (List.mem_of_getElem? hf1)
        obtain ⟨t0, t1⟩ := totV_nn h2 (M := M) (g := g) (fs := fs.take i) c0 c1
        refine ⟨a, _, rfl, SqT.of ha, rfl, _, _, rfl, _, _, rfl, rfl, ?_⟩
        cases b with
        | true =>
          obtain ⟨k1, k2⟩ := okf.c rfl
          refine ⟨_, rfl, _, rfl, rfl, _, rfl, ifT (decT rfl) ?_⟩
          refine ⟨_, rfl, _, rfl, me, _, (k : Int), _, rfl, rfl, hML, atM (by show k < M.length; have : k < nc := k1; omega), _, M.getD k 0, rfl, rfl, .inl (by omega), _, rfl, _, m, rfl, rfl, (by show (0 : Int) < m; omega), some (.str (fname true)), some (.int (k : Int)), ?_, rfl⟩
          rw [totV_step hf1]
          rfl
        | false =>
          have k1 := okf.i rfl
          refine ⟨_, rfl, _, rfl, rfl, _, rfl, ifF (decF xca) ?_⟩
          refine ⟨_, rfl, _, rfl, gv, _, (k : Int), _, rfl, rfl, hg, atM (by show k < g.length; have : k < ni := k1; omega), _, g.getD k 0, rfl, rfl, .inl (by omega), _, rfl, _, m, rfl, rfl, (by show (0 : Int) < m; omega), some (.str (fname false)), some (.int (k : Int)), ?_, rfl⟩
          rw [totV_step hf1]
          rfl
      · rintro σ H' ⟨v5, v6, rfl, rfl⟩
        rw [pd_len hF, List.take_length]
        refine ⟨_, rfl, _, rfl, p, _, 1, .int t, rfl, rfl, SqT.of hp, atI_nat (j := 1) rfl, me, _, (t : Int), _, rfl, rfl, hML, atM tl, _, rfl, _, _, rfl, rfl, _, rfl, _, m, rfl, rfl, (by show (0 : Int) < m; omega), ?_⟩
        refine ⟨_, rfl, _, rfl, p, _, 1, .int t, rfl, rfl, SqT.of hp, atI_nat (j := 1) rfl, me, _, (t : Int), t, rfl, rfl, hM, ixm tl, ?_⟩
        refine kk _ ?_ (But.refl _ _).upd
        rw [upd_same, map_set_int]
        rfl
    | scale t u =>
      obtain ⟨p, rfl, hp⟩ := id hS
      obtain ⟨ht, u0, u1, hi⟩ := hO
      have tl : t < M.length := by omega
      refine ⟨_, rfl, p, _, 0, .str "scale", rfl, rfl, SqT.of hp, atI_nat (j := 0) rfl, rfl, _, rfl, ifF (decF xsa) ?_⟩
      refine ⟨_, rfl, p, _, 0, .str "scale", rfl, rfl, SqT.of hp, atI_nat (j := 0) rfl, rfl, _, rfl, ifT (decT rfl) ?_⟩
      refine ⟨_, rfl, _, rfl, p, _, 1, .int t, rfl, rfl, SqT.of hp, atI_nat (j := 1) rfl, me, _, (t : Int), _, rfl, rfl, hML, atM tl, _, rfl, p, _, 2, .int u, rfl, rfl, SqT.of hp, atI_nat (j := 2) rfl, _, u, rfl, rfl, .inr (by omega), _, rfl, _, m, rfl, rfl, (by show (0 : Int) < m; omega), ?_⟩
      refine ⟨_, rfl, _, rfl, p, _, 1, .int t, rfl, rfl, SqT.of hp, atI_nat (j := 1) rfl, me, _, (t : Int), t, rfl, rfl, hM, ixm tl, ?_⟩
      refine kk _ ?_ (But.refl _ _).upd
      rw [upd_same, map_set_int]
      rfl
    | swap a b =>
      obtain ⟨p, rfl, hp⟩ := id hS
      obtain ⟨ha, hb, hab⟩ := hO
      have al : a < M.length := by omega
      have bl : b < M.length := by omega
      refine ⟨_, rfl, p, _, 0, .str "swap", rfl, rfl, SqT.of hp, atI_nat (j := 0) rfl, rfl, _, rfl, ifF (decF xwa) ?_⟩
      refine ⟨_, rfl, p, _, 0, .str "swap", rfl, rfl, SqT.of hp, atI_nat (j := 0) rfl, rfl, _, rfl, ifF (decF xws) ?_⟩
      refine ⟨_, rfl, p, _, 0, .str "swap", rfl, rfl, SqT.of hp, atI_nat (j := 0) rfl, rfl, _, rfl, ifT (decT rfl) ?_⟩
      refine ⟨_, rfl, _, rfl, p, _, 1, .int a, rfl, rfl, SqT.of hp, atI_nat (j := 1) rfl, me, _, (a : Int), _, rfl, rfl, hML, atM al, ?_⟩
      refine ⟨_, rfl, _, rfl, p, _, 2, .int b, rfl, rfl, SqT.of hp, atI_nat (j := 2) rfl, me, _, (b : Int), _, rfl, rfl, hML, atM bl, ?_⟩
      refine ⟨_, rfl, _, rfl, p, _, 1, .int a, rfl, rfl, SqT.of hp, atI_nat (j := 1) rfl, me, _, (a : Int), a, rfl, rfl, hM, ixm al, ?_⟩
      have pm : p ≠ me := ne_of hp hM (by intro z; cases z)
      have hp' : upd H me (.lst ((M.map V.int).set a (.int (M.getD b 0)))) p = some (.tup [.str "swap", .int a, .int b]) := by rw [upd_ne pm]; exact hp
      refine ⟨_, rfl, _, rfl, _, rfl, p, _, 2, .int b, rfl, rfl, SqT.of hp', atI_nat (j := 2) rfl, me, _, (b : Int), b, rfl, rfl, upd_same, ixn (by rw [List.length_set, List.length_map]; exact bl), ?_⟩
      refine kk _ ?_ (But.refl _ _).upd.upd
      rw [upd_same, map_set_int, map_set_int]
      rfl
    | look t s tb a b =>
      obtain ⟨p, q, rfl, hp, hq⟩ := id hS
      obtain ⟨ht, ha, hb, hta, htb, hab, hs, hpr, hT⟩ := hO
      have tl : t < M.length := by omega
      have al : a < M.length := by omega
      have bl : b < M.length := by omega
      refine ⟨_, rfl, p, _, 0, .str "table", rfl, rfl, SqT.of hp, atI_nat (j := 0) rfl, rfl, _, rfl, ifF (decF xta) ?_⟩
      refine ⟨_, rfl, p, _, 0, .str "table", rfl, rfl, SqT.of hp, atI_nat (j := 0) rfl, rfl, _, rfl, ifF (decF xts) ?_⟩
      refine ⟨_, rfl, p, _, 0, .str "table", rfl, rfl, SqT.of hp, atI_nat (j := 0) rfl, rfl, _, rfl, ifF (decF xtw) ?_⟩
      refine ⟨_, rfl, p, _, 3, .ref q, rfl, rfl, SqT.of hp, atI_nat (j := 3) rfl, _, rfl, _, rfl, _, rfl, p, _, 4, .int a, rfl, rfl, SqT.of hp, atI_nat (j := 4) rfl, me, _, (a : Int), _, rfl, rfl, hML, atM al, _, rfl, _, rfl, p, _, 5, .int b, rfl, rfl, SqT.of hp, atI_nat (j := 5) rfl, me, _, (b : Int), _, rfl, rfl, hML, atM bl,
        q, m, M.getD a 0, M.getD b 0, tb, rfl, hq, hT, hpr, hm, (rM.at_ al).1, (rM.at_ bl).1, fun H1 s1 => ?_⟩
      refine ⟨_, rfl, _, rfl, p, _, 1, .int t, rfl, rfl, SqT.of (s1 _ _ hp), atI_nat (j := 1) rfl, me, _, (t : Int), _, rfl, rfl, SqL.of (s1 _ _ hM), atM tl, _, rfl, p, _, 2, .int s, rfl, rfl, SqT.of (s1 _ _ hp), atI_nat (j := 2) rfl, _, rfl, s, _, rfl, rfl, .inl (by omega), _, _, rfl, rfl, _, rfl, _, m, rfl, rfl, (by show (0 : Int) < m; omega), ?_⟩
      refine ⟨_, rfl, _, rfl, p, _, 1, .int t, rfl, rfl, SqT.of (s1 _ _ hp), atI_nat (j := 1) rfl, me, _, (t : Int), t, rfl, rfl, s1 _ _ hM, ixm tl, ?_⟩
      refine kk _ ?_ (But.of s1).upd
      rw [upd_same, map_set_int]
      rfl
end
/-! ### programs, loans, a vault: data and heap -/
structure Prg where
  m : Int
  nc : Nat
  ni : Nat
  ss : List Stp
structure Lon where
  P : Prg
  pl : List Nat
  g : List Int
  bg : Int
  done : Nat
structure VS where
  m : Int
  ca : Addr
  la : Addr
  M : List Int
  ls : List (Option (Addr × Lon))
abbrev nV (n : Nat) : V := .int (n : Int)
def loV : Option (Addr × Lon) → V
  | none => .non
  | some (a, _) => .ref a
def pf (m nc ni : Int) (l : Addr) : List (Str × V) := [("modulus", .int m), ("cells", .int nc), ("inputs", .int ni), ("steps", .ref l)]
def lf (p l g : Addr) (b d : Int) : List (Str × V) := [("program", .ref p), ("places", .ref l), ("given", .ref g), ("begun", .int b), ("done", .int d)]
def vf (m : Int) (c l : Addr) : List (Str × V) := [("modulus", .int m), ("cells", .ref c), ("loans", .ref l)]
section
variable {m nc ni b d z : Int} {l p g c : Addr}
theorem pf_m : (pf m nc ni l).lookup ("modulus" : Str) = some (.int m) := by kernel_rfl
theorem pf_c : (pf m nc ni l).lookup ("cells" : Str) = some (.int nc) := by kernel_rfl
theorem pf_i : (pf m nc ni l).lookup ("inputs" : Str) = some (.int ni) := by kernel_rfl
theorem pf_s : (pf m nc ni l).lookup ("steps" : Str) = some (.ref l) := by kernel_rfl
theorem pf_mk : putF "steps" (.ref l) (putF "inputs" (.int ni) (putF "cells" (.int nc) (putF "modulus" (.int m) []))) = pf m nc ni l := by kernel_rfl
theorem lf_p : (lf p l g b d).lookup ("program" : Str) = some (.ref p) := by kernel_rfl
theorem lf_l : (lf p l g b d).lookup ("places" : Str) = some (.ref l) := by kernel_rfl
theorem lf_g : (lf p l g b d).lookup ("given" : Str) = some (.ref g) := by kernel_rfl
theorem lf_b : (lf p l g b d).lookup ("begun" : Str) = some (.int b) := by kernel_rfl
theorem lf_d : (lf p l g b d).lookup ("done" : Str) = some (.int d) := by kernel_rfl
theorem lf_mk : putF "done" (.int d) (putF "begun" (.int b) (putF "given" (.ref g) (putF "places" (.ref l) (putF "program" (.ref p) [])))) = lf p l g b d := by kernel_rfl
theorem lf_put : putF "done" (.int z) (lf p l g b d) = lf p l g b z := by kernel_rfl
theorem vf_m : (vf m c l).lookup ("modulus" : Str) = some (.int m) := by kernel_rfl
theorem vf_c : (vf m c l).lookup ("cells" : Str) = some (.ref c) := by kernel_rfl
theorem vf_l : (vf m c l).lookup ("loans" : Str) = some (.ref l) := by kernel_rfl
theorem vf_mk : putF "loans" (.ref l) (putF "cells" (.ref c) (putF "modulus" (.int m) [])) = vf m c l := by kernel_rfl
theorem vf_found : (vf m c l).lookup ("found" : Str) = none := by kernel_rfl
theorem vf_blocked : (vf m c l).lookup ("blocked" : Str) = none := by kernel_rfl
theorem vf_perform : (vf m c l).lookup ("perform" : Str) = none := by kernel_rfl
theorem vf_advance : (vf m c l).lookup ("advance" : Str) = none := by kernel_rfl
theorem vf_answer : (vf m c l).lookup ("answer" : Str) = none := by kernel_rfl
theorem vf_recall : (vf m c l).lookup ("recall" : Str) = none := by kernel_rfl
theorem vf_lend : (vf m c l).lookup ("lend" : Str) = none := by kernel_rfl
theorem vf_open : (vf m c l).lookup ("open_loans" : Str) = none := by kernel_rfl
end
structure OkP (P : Prg) : Prop where
  m2 : 2 ≤ P.m
  mm : P.m ≤ 1000000000
  c1 : 1 ≤ P.nc
  c2 : P.nc ≤ 60
  i2 : P.ni ≤ 60
  sl : P.ss.length ≤ 20000
  ok : ∀ s ∈ P.ss, OkS P.m P.nc P.ni s
structure OkL (m : Int) (n : Nat) (L : Lon) : Prop where
  p : OkP L.P
  pm : L.P.m = m
  ll : L.pl.length = L.P.nc
  nd : L.pl.Nodup
  lt : ∀ p ∈ L.pl, p < n
  gl : L.g.length = L.P.ni
  dn : L.done ≤ L.P.ss.length
def ProgAt (CP : Addr) (H : Hp) (a : Addr) (P : Prg) : Prop := ∃ dx l vs, H a = some (.ins CP dx (pf P.m P.nc P.ni l)) ∧ H l = some (.lst vs) ∧ Paired (StpAt H) vs P.ss
theorem ProgAt.mono {CP : Addr} {H H' : Hp} (s : Same H H') {a : Addr} {P : Prg} (h : ProgAt CP H a P) : ProgAt CP H' a P := by
  obtain ⟨dx, l, vs, h1, h2, h3⟩ := h
  exact ⟨dx, l, vs, s _ _ h1, s _ _ h2, pd_mono (fun _ _ => StpAt.mono s) h3⟩
def LonAt (CP CL : Addr) (I H : Hp) (a : Addr) (L : Lon) : Prop :=
  ∃ dx pa la ga, H a = some (.ins CL dx (lf pa la ga L.bg L.done)) ∧ ProgAt CP I pa L.P ∧ I la = some (.lst (L.pl.map nV)) ∧ I ga = some (.lst (L.g.map V.int))
theorem LonAt.mono {CP CL : Addr} {I I' H H' : Hp} (s : Same I I') {a : Addr} {L : Lon} (h : LonAt CP CL I H a L) (k : ∀ o, H a = some o → H' a = some o) : LonAt CP CL I' H' a L := by
  obtain ⟨dx, pa, la, ga, h1, h2, h3, h4⟩ := h
  exact ⟨dx, pa, la, ga, k _ h1, h2.mono s, s _ _ h3, s _ _ h4⟩
/-- the vault at v: I is the part of the heap that no call changes -/
structure VSt (CP CL CV : Addr) (I H : Hp) (v : Addr) (S : VS) : Prop where
  sub : Same I H
  iv : ∃ dx, I v = some (.ins CV dx (vf S.m S.ca S.la))
  hc : H S.ca = some (.lst (S.M.map V.int))
  nc : I S.ca = none
  hl : H S.la = some (.lst (S.ls.map loV))
  nl : I S.la = none
  lo : ∀ (i : Nat) (a : Addr) (L : Lon), S.ls[i]? = some (some (a, L)) → I a = none ∧ LonAt CP CL I H a L ∧ OkL S.m S.M.length L
  inj : ∀ (i j : Nat) (a : Addr) (L L' : Lon), S.ls[i]? = some (some (a, L)) → S.ls[j]? = some (some (a, L')) → i = j
  m2 : 2 ≤ S.m
  mm : S.m ≤ 1000000000
  rng : Rng S.m S.M
  l1 : 1 ≤ S.M.length
  l2 : S.M.length ≤ 200
/-- the addresses that a call of the vault's may change -/
def Mu (S : VS) (b : Addr) : Prop := b = S.ca ∨ b = S.la ∨ ∃ (i : Nat) (L : Lon), S.ls[i]? = some (some (b, L))
def Fr (S : Addr → Prop) (H H' : Hp) : Prop := ∀ b o, ¬ S b → H b = some o → H' b = some o
theorem Fr.refl (S : Addr → Prop) (H : Hp) : Fr S H H := fun _ _ _ h => h
theorem Fr.trans {S : Addr → Prop} {H H1 H2 : Hp} (x : Fr S H H1) (y : Fr S H1 H2) : Fr S H H2 := fun b o n h => y b o n (x b o n h)
theorem Fr.of {S : Addr → Prop} {H H1 : Hp} (x : Same H H1) : Fr S H H1 := fun b u _ h => x b u h
theorem Fr.but {S : Addr → Prop} {a : Addr} {H H1 : Hp} (x : But a H H1) (h : S a) : Fr S H H1 := fun b u n e => x b u (fun z => n (by rw [z]; exact h)) e
theorem Fr.mono {S S' : Addr → Prop} {H H1 : Hp} (x : Fr S H H1) (h : ∀ b, S b → S' b) : Fr S' H H1 := fun b u n e => x b u (fun z => n (h b z)) e
section
variable {CP CL CV : Addr} {I H H' : Hp} {v : Addr} {S : VS}
theorem VSt.mu_none (X : VSt CP CL CV I H v S) {b : Addr} (h : Mu S b) : I b = none := by
  rcases h with h | h | ⟨i, L, h⟩
  · rw [h]; exact X.nc
  · rw [h]; exact X.nl
  · exact (X.lo i b L h).1
theorem VSt.mu_some (X : VSt CP CL CV I H v S) {b : Addr} (h : Mu S b) : ∃ o, H b = some o := by
  rcases h with h | h | ⟨i, L, h⟩
  · rw [h]; exact ⟨_, X.hc⟩
  · rw [h]; exact ⟨_, X.hl⟩
  · obtain ⟨dx, pa, la, ga, e, _⟩ := (X.lo i b L h).2.1
    exact ⟨_, e⟩
theorem VSt.hv (X : VSt CP CL CV I H v S) : ∃ dx, H v = some (.ins CV dx (vf S.m S.ca S.la)) := by
  obtain ⟨dx, e⟩ := X.iv
  exact ⟨dx, X.sub _ _ e⟩
theorem VSt.ca_ne_la (X : VSt CP CL CV I H v S) : S.ca ≠ S.la := fun e => by
  have h1 := X.hc
  have h2 := X.hl
  rw [e, h2] at h1
  have h3 : S.ls.map loV = S.M.map V.int := by injection h1 with h; injection h
  have hl := X.l1
  have h4 : (S.ls.map loV)[0]? = (S.M.map V.int)[0]? := by rw [h3]
  rw [List.getElem?_map, List.getElem?_map, List.getElem?_eq_getElem (l := S.M) (by omega)] at h4
  cases e0 : S.ls[0]? with
  | none => rw [e0] at h4; cases h4
  | some o =>
    rw [e0] at h4
    match o, h4 with
    | none, h4 => cases h4
    | some (a, L), h4 => cases h4
theorem VSt.lo_ne (X : VSt CP CL CV I H v S) {i : Nat} {a : Addr} {L : Lon} (h : S.ls[i]? = some (some (a, L))) : a ≠ S.ca ∧ a ≠ S.la := by
  obtain ⟨dx, pa, la, ga, e, _⟩ := (X.lo i a L h).2.1
  exact ⟨ne_of e X.hc (by intro z; cases z), ne_of e X.hl (by intro z; cases z)⟩
/-- new things come, old ones stay -/
theorem VSt.same (X : VSt CP CL CV I H v S) (s : Same H H') : VSt CP CL CV I H' v S :=
  ⟨X.sub.trans s, X.iv, s _ _ X.hc, X.nc, s _ _ X.hl, X.nl, fun i a L h => ⟨(X.lo i a L h).1, (X.lo i a L h).2.1.mono (Same.refl _) (fun o e => s _ _ e), (X.lo i a L h).2.2⟩, X.inj, X.m2, X.mm, X.rng, X.l1, X.l2⟩
/-- what is apart is changed, what never changes grows -/
theorem VSt.away {I' : Hp} {R : Addr → Prop} (X : VSt CP CL CV I H v S) (s : Fr R H H') (sI : Same I I') (s' : Same I' H') (nn : ∀ b, H b ≠ none → I b = none → I' b = none) (ap : ∀ b, Mu S b → ¬ R b) : VSt CP CL CV I' H' v S := by
  have keep : ∀ b o, Mu S b → H b = some o → H' b = some o := fun b o hb e => s b o (ap b hb) e
  have non : ∀ b, Mu S b → I' b = none := fun b hb => nn b (by obtain ⟨o, e⟩ := X.mu_some hb; rw [e]; exact fun z => nomatch z) (X.mu_none hb)
  obtain ⟨dx, iv⟩ := X.iv
  exact ⟨s', ⟨dx, sI _ _ iv⟩, keep _ _ (.inl rfl) X.hc, non _ (.inl rfl), keep _ _ (.inr (.inl rfl)) X.hl, non _ (.inr (.inl rfl)),
    fun i a L h => ⟨non _ (.inr (.inr ⟨i, L, h⟩)), (X.lo i a L h).2.1.mono sI (fun o e => keep _ _ (.inr (.inr ⟨i, L, h⟩)) e), (X.lo i a L h).2.2⟩, X.inj, X.m2, X.mm, X.rng, X.l1, X.l2⟩
end
/-! ### the cells that a loan works on -/
def gat (pl : List Nat) (M : List Int) : List Int := pl.map fun p => M.getD p 0
def sct (pl : List Nat) (vs M : List Int) : List Int := (List.zip pl vs).foldl (fun M q => M.set q.1 q.2) M
noncomputable def onS (L : Lon) (x : Stp) (M : List Int) : List Int := sct L.pl (doS L.P.m L.g x (gat L.pl M)) M
noncomputable def runS (L : Lon) (xs : List Stp) (M : List Int) : List Int := xs.foldl (fun M x => onS L x M) M
noncomputable def undS (L : Lon) (M : List Int) : List Int := runS L ((L.P.ss.take L.done).reverse.map (invS L.P.m)) M
theorem sct_len {pl : List Nat} : ∀ {vs M : List Int}, (sct pl vs M).length = M.length := by
  intro vs M
  unfold sct
  generalize List.zip pl vs = q
  induction q generalizing M with
  | nil => rfl
  | cons a r ih =>
    show (r.foldl _ (M.set a.1 a.2)).length = M.length
    rw [ih, List.length_set]
theorem gat_len {pl : List Nat} {M : List Int} : (gat pl M).length = pl.length := List.length_map _
theorem gat_rng {m : Int} {pl : List Nat} {M : List Int} (h : Rng m M) (hp : ∀ p ∈ pl, p < M.length) : Rng m (gat pl M) := fun x hx => by
  obtain ⟨p, hp1, rfl⟩ := List.mem_map.mp hx
  exact h.at_ (hp p hp1)
theorem sct_rng {m : Int} {pl : List Nat} {vs M : List Int} (hv : Rng m vs) (h : Rng m M) : Rng m (sct pl vs M) := by
  unfold sct
  have hz : ∀ q ∈ List.zip pl vs, q.2 ∈ vs := fun q hq => (List.of_mem_zip hq).2
  generalize List.zip pl vs = q at hz
  induction q generalizing M with
  | nil => exact h
  | cons a r ih =>
    have ha := hv _ (hz a List.mem_cons_self)
    exact ih (h.set ha.1 ha.2) fun q hq => hz q (List.mem_cons_of_mem _ hq)
theorem onS_len {L : Lon} {x : Stp} {M : List Int} : (onS L x M).length = M.length := sct_len
theorem onS_rng {L : Lon} {m : Int} {M : List Int} (hL : OkL m M.length L) (hM : Rng m M) {x : Stp} (hx : OkS L.P.m L.P.nc L.P.ni x) : Rng m (onS L x M) := by
  have hm := hL.pm
  have h2 := hL.p.m2
  subst hm
  exact sct_rng (doS_rng h2 (gat_rng hM hL.lt) (by rw [gat_len]; exact hL.ll) x hx) hM
section
variable {K : PySem.W.Frag} {mg : Str → Option Value} (T : Top K mg)
theorem nPm : NoAttr K T.cProgram.C "modulus" := T.cProgram.n _ (.head _)
theorem nPc : NoAttr K T.cProgram.C "cells" := T.cProgram.n _ (.tail _ (.head _))
theorem nPi : NoAttr K T.cProgram.C "inputs" := T.cProgram.n _ (.tail _ (.tail _ (.head _)))
theorem nPs : NoAttr K T.cProgram.C "steps" := T.cProgram.n _ (.tail _ (.tail _ (.tail _ (.head _))))
theorem nLp : NoAttr K T.cLoan.C "program" := T.cLoan.n _ (.head _)
theorem nLl : NoAttr K T.cLoan.C "places" := T.cLoan.n _ (.tail _ (.head _))
theorem nLg : NoAttr K T.cLoan.C "given" := T.cLoan.n _ (.tail _ (.tail _ (.head _)))
theorem nLb : NoAttr K T.cLoan.C "begun" := T.cLoan.n _ (.tail _ (.tail _ (.tail _ (.head _))))
theorem nLd : NoAttr K T.cLoan.C "done" := T.cLoan.n _ (.tail _ (.tail _ (.tail _ (.tail _ (.head _)))))
theorem nVm : NoAttr K T.cVault.C "modulus" := T.cVault.n _ (.head _)
theorem nVc : NoAttr K T.cVault.C "cells" := T.cVault.n _ (.tail _ (.head _))
theorem nVl : NoAttr K T.cVault.C "loans" := T.cVault.n _ (.tail _ (.tail _ (.head _)))
end
/-- a step's first word -/
def kw : Stp → Str
  | .add _ _ _ => "add"
  | .scale _ _ => "scale"
  | .swap _ _ => "swap"
  | .look _ _ _ _ _ => "table"
theorem kw_at {H : Hp} {v : V} : ∀ {x : Stp}, StpAt H v x → ∃ p xs, v = .ref p ∧ H p = some (.tup (.str (kw x) :: xs))
  | .add _ _ _, ⟨p, _, _, e, h, _⟩ => ⟨p, _, e, h⟩
  | .scale _ _, ⟨p, e, h⟩ => ⟨p, _, e, h⟩
  | .swap _ _, ⟨p, e, h⟩ => ⟨p, _, e, h⟩
  | .look _ _ _ _ _, ⟨p, _, e, h, _⟩ => ⟨p, _, e, h⟩
theorem kw_look {m : Int} {nc ni : Nat} : ∀ {x : Stp}, OkS m nc ni x → decide (V.str (kw x) = V.str "table") = true → Pr m
  | .add _ _ _, _, h => absurd (of_decide_eq_true h) xat
  | .scale _ _, _, h => absurd (of_decide_eq_true h) xst
  | .swap _ _, _, h => absurd (of_decide_eq_true h) xwt
  | .look _ _ _ _ _, h, _ => h.2.2.2.2.2.2.2.1
section
variable {P : Program} {w : World} {K : PySem.W.Frag} {mg : Str → Option Value} {base : Heap}
/-! ### steps.py: check_steps -/
def spCheckSteps : Sp := fun vs H Q _ => ∃ (l : Addr) (m : Int) (nc ni : Nat) (most : Int) (xs : List V) (ss : List Stp), vs = [.ref l, .int m, .int nc, .int ni, .int most] ∧ H l = some (.lst xs) ∧ Paired (StpAt H) xs ss ∧ (∀ s ∈ ss, OkS m nc ni s) ∧
  (xs.length : Int) ≤ most ∧ 2 ≤ m ∧ m ≤ 1000000000 ∧ ∀ H', Same H H' → Q .non H'
abbrev N_checkSteps : List Str := ["steps", "modulus", "cells", "inputs", "most", "looks", "step"]
theorem sc_checkSteps : FnScope N_checkSteps ["steps", "modulus", "cells", "inputs", "most"] (defScope sCheckSteps) := ⟨rfl, rfl, rfl, by decide +kernel, rfl, by decide +kernel, by decide +kernel⟩
theorem ok_checkSteps (T : Top K mg) : FnOk P w K mg base CX0 6 T.checkSteps.f T.checkSteps.fd ["steps", "modulus", "cells", "inputs", "most"] spCheckSteps := by
  refine T.checkSteps.F.ok sc_checkSteps (fun vs H Q E h => ?_) (fun cdv A outer s H vs Q E hr h => ?_)
  · obtain ⟨l, m, nc, ni, most, xs, ss, rfl, _⟩ := h
    rfl
  · obtain ⟨l, m, nc, ni, most, xs, ss, rfl, hl, hP, hO, hlen, h2, hm, kk⟩ := h
    refine ⟨_, (pss_cons (ps_if (PW.pt (pw_or (pt_not (pt_val (pe_callB call_isi rfl T.zisinstance (by decide +kernel) (pa_cons (pv 0) (pa_cons (pe_bltn (v := .ty "list") rfl T.zlist (by decide +kernel) rfl) pa_nil))))) (pw_or1 (pt_cmpR op_gt (pe_callB call_len_seq rfl T.zlen (by decide +kernel) (pa_cons (pv 0) pa_nil)) (pv 4) (nomark _))))) (pss_one ps_never) pss_nil)
      (pss_cons (ps_set (i := 5) sc_checkSteps.nd rfl (Or.inl rfl) pe_bl)
      (pss_cons (ps_for PassesOwn.never rfl (pi_list (pv 0)) (pg_name (i := 6) sc_checkSteps.nd rfl (Or.inl rfl)) (pss_cons (ps_if (pt_not (pt_val (pe_call (ok_isStep T) (hr.mono (by decide)) rfl T.isStep.g T.isStep.kp T.isStep.b .nil pass0 (pa_cons (pv 6) (pa_cons (pv 1) (pa_cons (pv 2) (pa_cons (pv 3) pa_nil))))))) (pss_one ps_never) pss_nil)
          (pss_one (ps_set (i := 5) sc_checkSteps.nd rfl (Or.inl rfl) (pe_or (pv 5) (pe_one (pe_cmpR op_eq (pe_ix ix_tup (pv 6) pe_int (fun _ _ => rfl)) pe_str (nomark _))))))))
      (pss_one (ps_if (PW.pt (pw_and (pt_val (pv 5)) (pw_and1 (pt_not (pt_val (pe_call (ok_isPrime T) (hr.mono (by decide)) rfl T.isPrime.g T.isPrime.kp T.isPrime.b .nil pass0 (pa_cons (pv 1) pa_nil))))))) (pss_one ps_never) pss_nil))))), ?_⟩
    refine ⟨_, rfl, _, _, _, _, true, rfl, .ty "list", .base (.lst hl), kit_ty (by decide +kernel), true, rfl, iteF ?_⟩
    refine ⟨_, rfl, l, _, rfl, .inl (SqL.of hl), _, rfl, _, most, rfl, rfl, _, rfl, ifF (decide_eq_false (by omega)) ?_⟩
    refine ⟨_, rfl, l, rfl, ⟨_, SqL.of hl⟩, for_list (K := K) (a := l) (xs := xs) (fun i σ H' => ∃ (b : Bool) (v6 : Option V), σ = [some (.ref l), some (.int m), some (.int nc), some (.int ni), some (.int most), some (.bl b), v6] ∧ (b = true → Pr m) ∧ Same H H')
      ⟨false, none, rfl, (fun z => nomatch z), Same.refl _⟩ (fun i σ H' _ ⟨_, _, _, _, s1⟩ => SqL.of (s1 _ _ hl)) ?_ ?_⟩
    · rintro i v σ H' hv ⟨b, v6, rfl, hb, s1⟩
      obtain ⟨x, hx, hS⟩ := pd_get hP hv
      have okx := hO x (List.mem_of_getElem? hx)
      refine ⟨_, rfl, _, rfl, _, rfl, _, rfl, v, m, nc, ni, x, rfl, hS.mono s1, okx, h2, hm, fun H1 s2 => ⟨_, rfl, iteF ?_⟩⟩
      have s12 : Same H H1 := s1.trans s2
      refine ⟨_, rfl, b, rfl, ifb (fun hb1 => ?_) fun hb1 => ?_⟩
      · exact ⟨true, _, rfl, fun _ => hb hb1, s12⟩
      · obtain ⟨p, ys, rfl, hp⟩ := kw_at (hS.mono s12)
        exact ⟨_, rfl, p, _, 0, .str (kw x), rfl, rfl, SqT.of hp, atI_nat (j := 0) rfl, rfl, _, _, rfl, fun z => kw_look okx z, s12⟩
    · rintro σ H' ⟨b, v6, rfl, hb, s1⟩
      refine ⟨_, rfl, b, rfl, ifb (fun hb1 => ?_) fun hb1 => iteF (kk _ s1)⟩
      exact ⟨_, rfl, m, rfl, hb hb1, hm, _, rfl, iteF (kk _ s1)⟩
/-! ### programs.py: check_numbers -/
def spCheckNumbers (K : PySem.W.Frag) : Sp := fun vs H Q _ => ∃ (l : Addr) (m : Int) (xs : List Int), vs = [.ref l, .int xs.length, .int m] ∧ H l = some (.lst (xs.map V.int)) ∧ Rng m xs ∧ Q .non H
abbrev N_checkNumbers : List Str := ["values", "many", "modulus", "value"]
theorem sc_checkNumbers : FnScope N_checkNumbers ["values", "many", "modulus"] (defScope sCheckNumbers) := ⟨rfl, rfl, rfl, by decide +kernel, rfl, by decide +kernel, by decide +kernel⟩
theorem ok_checkNumbers (T : Top K mg) : FnOk P w K mg base CX0 3 T.checkNumbers.f T.checkNumbers.fd ["values", "many", "modulus"] (spCheckNumbers K) := by
  refine T.checkNumbers.F.ok sc_checkNumbers (fun vs H Q E h => ?_) (fun cdv A outer s H vs Q E hr h => ?_)
  · obtain ⟨l, m, xs, rfl, _⟩ := h
    rfl
  · obtain ⟨l, m, xs, rfl, hl, hR, kk⟩ := h
    refine ⟨_, (pss_cons (ps_if (PW.pt (pw_or (pt_not (pt_val (pe_callB call_isi rfl T.zisinstance (by decide +kernel) (pa_cons (pv 0) (pa_cons (pe_bltn (v := .ty "list") rfl T.zlist (by decide +kernel) rfl) pa_nil))))) (pw_or1 (pt_cmpR op_ne (pe_callB call_len_seq rfl T.zlen (by decide +kernel) (pa_cons (pv 0) pa_nil)) (pv 1) (nomark _))))) (pss_one ps_never) pss_nil)
      (pss_one (ps_for PassesOwn.never rfl (pi_list (pv 0)) (pg_name (i := 3) sc_checkNumbers.nd rfl (Or.inl rfl)) (pss_one (ps_if (pt_not (pt_val (pe_call (ok_isNumber T) (hr.mono (by decide)) rfl T.isNumber.g T.isNumber.kp T.isNumber.b .nil pass0 (pa_cons (pv 3) (pa_cons (pv 2) pa_nil))))) (pss_one ps_never) pss_nil))))), ?_⟩
    refine ⟨_, rfl, _, _, _, _, true, rfl, .ty "list", .base (.lst hl), kit_ty (by decide +kernel), true, rfl, iteF ?_⟩
    refine ⟨_, rfl, l, _, rfl, .inl (SqL.of hl), _, rfl, rfl, _, rfl, ifF (nT (decT (by rw [List.length_map]))) ?_⟩
    refine ⟨_, rfl, l, rfl, ⟨_, SqL.of hl⟩, for_list (K := K) (a := l) (xs := xs.map V.int) (fun i σ H' => ∃ v3, σ = [some (.ref l), some (.int xs.length), some (.int m), v3] ∧ H' = H)
      ⟨none, rfl, rfl⟩ (fun i σ H' _ ⟨_, _, e⟩ => by rw [e]; exact SqL.of hl) ?_ ?_⟩
    · rintro i v σ H' hv ⟨v3, rfl, rfl⟩
      obtain ⟨z, hz, rfl⟩ := getI hv
      obtain ⟨z0, z1⟩ := hR z (List.mem_of_getElem? hz)
      exact ⟨_, rfl, _, rfl, z, m, rfl, z0, z1, _, rfl, iteF ⟨_, rfl, rfl⟩⟩
    · rintro σ H' ⟨v3, rfl, rfl⟩
      exact kk
/-! ### programs.py: Program -/
def spPInit (CP : Addr) : Sp := fun vs H Q _ => ∃ (p dx l : Addr) (R : Prg) (xs : List V), vs = [.ref p, .int R.m, .int R.nc, .int R.ni, .ref l] ∧ H p = some (.ins CP dx []) ∧ OkP R ∧ H l = some (.lst xs) ∧ Paired (StpAt H) xs R.ss ∧
  ∀ l2 H', H l2 = none → H' l2 = some (.lst xs) → H' p = some (.ins CP dx (pf R.m R.nc R.ni l2)) → But p H H' → Q .non H'
abbrev N_pInit : List Str := ["self", "modulus", "cells", "inputs", "steps"]
theorem sc_pInit : FnScope N_pInit ["self", "modulus", "cells", "inputs", "steps"] (defScope sPInit) := ⟨rfl, rfl, rfl, by decide +kernel, rfl, by decide +kernel, by decide +kernel⟩
theorem ok_pInit (T : Top K mg) : FnOk P w K mg base CX0 7 T.pInit.f T.pInit.fd ["self", "modulus", "cells", "inputs", "steps"] (spPInit T.cProgram.C) := by
  refine T.pInit.F.ok sc_pInit (fun vs H Q E h => ?_) (fun cdv A outer s H vs Q E hr h => ?_)
  · obtain ⟨p, dx, l, R, xs, rfl, _⟩ := h
    rfl
  · obtain ⟨p, dx, l, R, xs, rfl, hp, ⟨h2, hm, c1, c2, i2, sl, hO⟩, hl, hP, kk⟩ := h
    refine ⟨_, (pss_cons (ps_if (PW.pt (pw_or (pt_not (pt_val (pe_call (ok_isInteger T) (hr.mono (by decide)) rfl T.isInteger.g T.isInteger.kp T.isInteger.b .nil pass0 (pa_cons (pv 1) pa_nil)))) (pw_or1 (pt_not (pt_chain op_le op_le pe_int (pv 1) (pe_glob (v := .int 1000000000) rfl T.kMODULUS.choose_spec ⟨_, rfl⟩)))))) (pss_one ps_never) pss_nil)
      (pss_cons (ps_if (PW.pt (pw_or (pt_not (pt_val (pe_call (ok_isInteger T) (hr.mono (by decide)) rfl T.isInteger.g T.isInteger.kp T.isInteger.b .nil pass0 (pa_cons (pv 2) pa_nil)))) (pw_or1 (pt_not (pt_chain op_le op_le pe_int (pv 2) (pe_glob (v := .int 60) rfl T.kCELLS.choose_spec ⟨_, rfl⟩)))))) (pss_one ps_never) pss_nil)
      (pss_cons (ps_if (PW.pt (pw_or (pt_not (pt_val (pe_call (ok_isInteger T) (hr.mono (by decide)) rfl T.isInteger.g T.isInteger.kp T.isInteger.b .nil pass0 (pa_cons (pv 3) pa_nil)))) (pw_or1 (pt_not (pt_chain op_le op_le pe_int (pv 3) (pe_glob (v := .int 60) rfl T.kINPUTS.choose_spec ⟨_, rfl⟩)))))) (pss_one ps_never) pss_nil)
      (pss_cons (ps_expr (pe_call (ok_checkSteps T) (hr.mono (by decide)) rfl T.checkSteps.g T.checkSteps.kp T.checkSteps.b .nil pass0 (pa_cons (pv 4) (pa_cons (pv 1) (pa_cons (pv 2) (pa_cons (pv 3) (pa_cons (pe_glob (v := .int 20000) rfl T.kSTEPS.choose_spec ⟨_, rfl⟩) pa_nil)))))))
      (pss_cons (ps_fld (pv 0) (pv 1) rfl)
      (pss_cons (ps_fld (pv 0) (pv 2) rfl)
      (pss_cons (ps_fld (pv 0) (pv 3) rfl)
      (pss_one (ps_fld (pv 0) (pe_callTy call_list_of rfl T.zlist (by decide +kernel) (pa_cons (pv 4) pa_nil)) rfl))))))))), ?_⟩
    refine ⟨_, rfl, _, rfl, _, rfl, iteF ⟨_, rfl, 2, R.m, rfl, rfl, _, rfl, ifT (decide_eq_true h2) ⟨_, 1000000000, rfl, rfl, _, rfl, ifF (nT (decide_eq_true hm)) ?_⟩⟩⟩
    refine ⟨_, rfl, _, rfl, _, rfl, iteF ⟨_, rfl, 1, _, rfl, rfl, _, rfl, ifT (decide_eq_true (by omega)) ⟨_, 60, rfl, rfl, _, rfl, ifF (nT (decide_eq_true (by omega))) ?_⟩⟩⟩
    refine ⟨_, rfl, _, rfl, _, rfl, iteF ⟨_, rfl, 0, _, rfl, rfl, _, rfl, ifT (decide_eq_true (by omega)) ⟨_, 60, rfl, rfl, _, rfl, ifF (nT (decide_eq_true (by omega))) ?_⟩⟩⟩
    refine ⟨_, rfl, _, rfl, _, rfl, _, rfl, l, R.m, R.nc, R.ni, 20000, xs, R.ss, rfl, hl, hP, hO, (by rw [pd_len hP]; omega), h2, hm, fun H1 s1 => ?_⟩
    refine ⟨_, rfl, _, rfl, p, T.cProgram.C, dx, _, rfl, s1 _ _ hp, T.cProgram.c, nPm T, (by show 0 < 1000; decide), ?_⟩
    refine ⟨_, rfl, _, rfl, p, T.cProgram.C, dx, _, rfl, upd_same, T.cProgram.c, nPc T, (by show 1 < 1000; decide), ?_⟩
    refine ⟨_, rfl, _, rfl, p, T.cProgram.C, dx, _, rfl, upd_same, T.cProgram.c, nPi T, (by show 2 < 1000; decide), ?_⟩
    have lp : l ≠ p := ne_of hl hp (by intro z; cases z)
    refine ⟨_, rfl, l, xs, rfl, .inl (SqL.of (by rw [upd_ne lp, upd_ne lp, upd_ne lp]; exact s1 _ _ hl)), fun l2 hl2 => ?_⟩
    have l2p : l2 ≠ p := fun z => by
      subst z
      rw [upd_same] at hl2
      cases hl2
    refine ⟨_, rfl, p, T.cProgram.C, dx, _, rfl, (by rw [upd_ne l2p.symm]; exact upd_same), T.cProgram.c, nPs T, (by show 3 < 1000; decide), ?_⟩
    · rw [upd_ne l2p, upd_ne l2p, upd_ne l2p] at hl2
      refine kk l2 _ (s1.free hl2) ?_ ?_ ?_
      · rw [upd_ne l2p]; exact upd_same
      · rw [upd_same]
        show some (HO.ins T.cProgram.C dx (putF "steps" (.ref l2) (putF "inputs" (.int R.ni) (putF "cells" (.int R.nc) (putF "modulus" (.int R.m) []))))) = _
        rw [pf_mk]
      · intro b o hb ho
        have hbl : b ≠ l2 := fun z => by
          rw [z] at ho
          rw [s1.free hl2] at ho
          cases ho
        rw [upd_ne hb, upd_ne hbl, upd_ne hb, upd_ne hb, upd_ne hb]
        exact s1 _ _ ho
/-! ### vault.py: Loan -/
def spLInit (CL : Addr) : Sp := fun vs H Q _ => ∃ (p dx pa la ga : Addr) (bg : Int), vs = [.ref p, .ref pa, .ref la, .ref ga, .int bg] ∧ H p = some (.ins CL dx []) ∧ ∀ H', H' p = some (.ins CL dx (lf pa la ga bg 0)) → But p H H' → Q .non H'
abbrev N_lInit : List Str := ["self", "program", "places", "given", "begun"]
theorem sc_lInit : FnScope N_lInit ["self", "program", "places", "given", "begun"] (defScope sLInit) := ⟨rfl, rfl, rfl, by decide +kernel, rfl, by decide +kernel, by decide +kernel⟩
theorem ok_lInit (T : Top K mg) : FnOk P w K mg base CX0 1 T.lInit.f T.lInit.fd ["self", "program", "places", "given", "begun"] (spLInit T.cLoan.C) := by
  refine T.lInit.F.ok sc_lInit (fun vs H Q E h => ?_) (fun cdv A outer s H vs Q E hr h => ?_)
  · obtain ⟨p, dx, pa, la, ga, bg, rfl, _⟩ := h
    rfl
  · obtain ⟨p, dx, pa, la, ga, bg, rfl, hp, kk⟩ := h
    refine ⟨_, (pss_cons (ps_fld (pv 0) (pv 1) rfl)
      (pss_cons (ps_fld (pv 0) (pv 2) rfl)
      (pss_cons (ps_fld (pv 0) (pv 3) rfl)
      (pss_cons (ps_fld (pv 0) (pv 4) rfl)
      (pss_one (ps_fld (pv 0) pe_int rfl)))))), ?_⟩
    refine ⟨_, rfl, _, rfl, p, T.cLoan.C, dx, _, rfl, hp, T.cLoan.c, nLp T, (by show 0 < 1000; decide), ?_⟩
    refine ⟨_, rfl, _, rfl, p, T.cLoan.C, dx, _, rfl, upd_same, T.cLoan.c, nLl T, (by show 1 < 1000; decide), ?_⟩
    refine ⟨_, rfl, _, rfl, p, T.cLoan.C, dx, _, rfl, upd_same, T.cLoan.c, nLg T, (by show 2 < 1000; decide), ?_⟩
    refine ⟨_, rfl, _, rfl, p, T.cLoan.C, dx, _, rfl, upd_same, T.cLoan.c, nLb T, (by show 3 < 1000; decide), ?_⟩
    refine ⟨_, rfl, p, T.cLoan.C, dx, _, rfl, upd_same, T.cLoan.c, nLd T, (by show 4 < 1000; decide), ?_⟩
    refine kk _ ?_ (But.refl _ _).upd.upd.upd.upd.upd
    rw [upd_same]
    show some (HO.ins T.cLoan.C dx (putF "done" (.int 0) (putF "begun" (.int bg) (putF "given" (.ref ga) (putF "places" (.ref la) (putF "program" (.ref pa) [])))))) = _
    rw [lf_mk]
/-! ### vault.py: Vault -/
def spVInit (CV : Addr) : Sp := fun vs H Q _ => ∃ (p dx l : Addr) (m : Int) (M : List Int), vs = [.ref p, .ref l, .int m] ∧ H p = some (.ins CV dx []) ∧ H l = some (.lst (M.map V.int)) ∧ Rng m M ∧ 2 ≤ m ∧ m ≤ 1000000000 ∧ 1 ≤ M.length ∧ M.length ≤ 200 ∧
  ∀ ca la H', H ca = none → H la = none → ca ≠ la → ca ≠ p → la ≠ p → H' ca = some (.lst (M.map V.int)) → H' la = some (.lst []) → H' p = some (.ins CV dx (vf m ca la)) → But p H H' → Q .non H'
abbrev N_vInit : List Str := ["self", "memory", "modulus"]
theorem sc_vInit : FnScope N_vInit ["self", "memory", "modulus"] (defScope sVInit) := ⟨rfl, rfl, rfl, by decide +kernel, rfl, by decide +kernel, by decide +kernel⟩
theorem ok_vInit (T : Top K mg) : FnOk P w K mg base CX0 4 T.vInit.f T.vInit.fd ["self", "memory", "modulus"] (spVInit T.cVault.C) := by
  refine T.vInit.F.ok sc_vInit (fun vs H Q E h => ?_) (fun cdv A outer s H vs Q E hr h => ?_)
  · obtain ⟨p, dx, l, m, M, rfl, _⟩ := h
    rfl
  · obtain ⟨p, dx, l, m, M, rfl, hp, hl, hR, h2, hm, l1, l200, kk⟩ := h
    refine ⟨_, (pss_cons (ps_if (PW.pt (pw_or (pt_not (pt_val (pe_call (ok_isInteger T) (hr.mono (by decide)) rfl T.isInteger.g T.isInteger.kp T.isInteger.b .nil pass0 (pa_cons (pv 2) pa_nil)))) (pw_or1 (pt_not (pt_chain op_le op_le pe_int (pv 2) (pe_glob (v := .int 1000000000) rfl T.kMODULUS.choose_spec ⟨_, rfl⟩)))))) (pss_one ps_never) pss_nil)
      (pss_cons (ps_if (PW.pt (pw_or (pt_not (pt_val (pe_callB call_isi rfl T.zisinstance (by decide +kernel) (pa_cons (pv 1) (pa_cons (pe_bltn (v := .ty "list") rfl T.zlist (by decide +kernel) rfl) pa_nil))))) (pw_or1 (pt_not (pt_chain op_le op_le pe_int (pe_callB call_len_seq rfl T.zlen (by decide +kernel) (pa_cons (pv 1) pa_nil)) (pe_glob (v := .int 200) rfl T.kMOST.choose_spec ⟨_, rfl⟩)))))) (pss_one ps_never) pss_nil)
      (pss_cons (ps_expr (pe_call (ok_checkNumbers T) (hr.mono (by decide)) rfl T.checkNumbers.g T.checkNumbers.kp T.checkNumbers.b .nil pass0 (pa_cons (pv 1) (pa_cons (pe_callB call_len_seq rfl T.zlen (by decide +kernel) (pa_cons (pv 1) pa_nil)) (pa_cons (pv 2) pa_nil)))))
      (pss_cons (ps_fld (pv 0) (pv 2) rfl)
      (pss_cons (ps_fld (pv 0) (pe_callTy call_list_of rfl T.zlist (by decide +kernel) (pa_cons (pv 1) pa_nil)) rfl)
      (pss_one (ps_fld (pv 0) (pe_lst pa_nil) rfl))))))), ?_⟩
    refine ⟨_, rfl, _, rfl, _, rfl, iteF ⟨_, rfl, 2, m, rfl, rfl, _, rfl, ifT (decide_eq_true h2) ⟨_, 1000000000, rfl, rfl, _, rfl, ifF (nT (decide_eq_true hm)) ?_⟩⟩⟩
    refine ⟨_, rfl, _, _, _, _, true, rfl, .ty "list", .base (.lst hl), kit_ty (by decide +kernel), true, rfl, iteF ?_⟩
    refine ⟨_, rfl, l, _, rfl, .inl (SqL.of hl), 1, _, rfl, rfl, _, rfl, ifT (decide_eq_true (by rw [List.length_map]; omega)) ⟨_, 200, rfl, rfl, _, rfl, ifF (nT (decide_eq_true (by rw [List.length_map]; omega))) ?_⟩⟩
    refine ⟨_, rfl, _, rfl, l, _, rfl, .inl (SqL.of hl), _, rfl, l, m, M, (by rw [List.length_map]; rfl), hl, hR, ?_⟩
    refine ⟨_, rfl, _, rfl, p, T.cVault.C, dx, _, rfl, hp, T.cVault.c, nVm T, (by show 0 < 1000; decide), ?_⟩
    have lp : l ≠ p := ne_of hl hp (by intro z; cases z)
    refine ⟨_, rfl, l, _, rfl, .inl (SqL.of (by rw [upd_ne lp]; exact hl)), fun ca hca => ?_⟩
    have cap : ca ≠ p := fun z => by
      subst z
      rw [upd_same] at hca
      cases hca
    rw [upd_ne cap] at hca
    refine ⟨_, rfl, p, T.cVault.C, dx, _, rfl, (by rw [upd_ne cap.symm]; exact upd_same), T.cVault.c, nVc T, (by show 1 < 1000; decide), ?_⟩
    refine ⟨by show 0 ≤ sizeLine; decide, fun la hla => ?_⟩
    have lap : la ≠ p := fun z => by
      subst z
      rw [upd_same] at hla
      cases hla
    have lac : la ≠ ca := fun z => by
      subst z
      rw [upd_ne cap, upd_same] at hla
      cases hla
    rw [upd_ne lap, upd_ne lac, upd_ne lap] at hla
    refine ⟨_, rfl, p, T.cVault.C, dx, _, rfl, (by rw [upd_ne lap.symm]; exact upd_same), T.cVault.c, nVl T, (by show 2 < 1000; decide), ?_⟩
    refine kk ca la _ hca hla lac.symm cap lap ?_ ?_ ?_ ?_
    · rw [upd_ne cap, upd_ne lac.symm, upd_ne cap]; exact upd_same
    · rw [upd_ne lap]; exact upd_same
    · rw [upd_same]
      show some (HO.ins T.cVault.C dx (putF "loans" (.ref la) (putF "cells" (.ref ca) (putF "modulus" (.int m) [])))) = _
      rw [vf_mk]
    · intro b o hb ho
      rw [upd_ne hb, upd_ne (ne_of_none ho hla), upd_ne hb, upd_ne (ne_of_none ho hca), upd_ne hb]
      exact ho
end
theorem cut_from (xs : List V) (k : Nat) : cutV xs (some (k : Int)) none = xs.drop k := by
  unfold cutV
  have e1 : HT.sIx xs.length 0 (some (k : Int)) = min k xs.length := HT.sIx_nat _ _ _
  have e2 : HT.sIx xs.length xs.length none = xs.length := rfl
  rw [e1, e2]
  by_cases h : k ≤ xs.length
  · rw [Nat.min_eq_left h, List.take_of_length_le (by rw [List.length_drop]; exact Nat.le_refl _)]
  · have h' : xs.length ≤ k := by omega
    rw [Nat.min_eq_right h', Nat.sub_self, List.take_zero, List.drop_eq_nil_of_le h']
theorem cut_to (xs : List V) (k : Nat) : cutV xs none (some (k : Int)) = xs.take k := by
  unfold cutV
  have e1 : HT.sIx xs.length xs.length (some (k : Int)) = min k xs.length := HT.sIx_nat _ _ _
  have e2 : HT.sIx xs.length 0 none = 0 := rfl
  rw [e1, e2, List.drop_zero, Nat.sub_zero]
  by_cases h : k ≤ xs.length
  · rw [Nat.min_eq_left h]
  · have h' : xs.length ≤ k := by omega
    rw [Nat.min_eq_right h', List.take_of_length_le h', List.take_of_length_le (Nat.le_refl _)]
theorem cut_mid (xs : List V) (k n : Nat) (hk : k ≤ xs.length) : cutV xs (some (k : Int)) (some ((k : Int) + (n : Int))) = (xs.drop k).take n := by
  unfold cutV
  have e1 : HT.sIx xs.length 0 (some (k : Int)) = min k xs.length := HT.sIx_nat _ _ _
  have e2 : HT.sIx xs.length xs.length (some ((k : Int) + (n : Int))) = min (k + n) xs.length := HT.sIx_nat _ _ (k + n)
  rw [e1, e2, Nat.min_eq_left hk]
  by_cases h : k + n ≤ xs.length
  · rw [Nat.min_eq_left h, Nat.add_sub_cancel_left]
  · have h' : xs.length ≤ k + n := by omega
    rw [Nat.min_eq_right h', List.take_of_length_le (by rw [List.length_drop]; exact Nat.le_refl _), List.take_of_length_le (by rw [List.length_drop]; omega)]
theorem inV_nV (p : Nat) : ∀ pl : List Nat, inV (nV p) (pl.map nV) = decide (p ∈ pl)
  | [] => rfl
  | q :: r => by
    have ih := inV_nV p r
    show (((q : Int) == (p : Int)) || inV (nV p) (r.map nV)) = decide (p ∈ q :: r)
    rw [ih]
    by_cases h : p = q
    · subst h
      simp
    · have h' : ¬ (q : Int) = (p : Int) := by omega
      simp [h, h']
theorem flat_nV : ∀ pl : List Nat, (pl.map nV).all flatV = true
  | [] => rfl
  | _ :: r => flat_nV r
theorem flat_one (p : Nat) : flatV (nV p) = true := rfl
theorem getN {ns : List Nat} {i : Nat} {v : V} (h : (ns.map nV)[i]? = some v) : ∃ z, ns[i]? = some z ∧ v = nV z := by
  rw [List.getElem?_map] at h
  cases e : ns[i]? with
  | none => rw [e] at h; cases h
  | some z => rw [e] at h; exact ⟨z, rfl, (Option.some.inj h).symm⟩
theorem getL {ls : List (Option (Addr × Lon))} {i : Nat} {v : V} (h : (ls.map loV)[i]? = some v) : ∃ o, ls[i]? = some o ∧ v = loV o := by
  rw [List.getElem?_map] at h
  cases e : ls[i]? with
  | none => rw [e] at h; cases h
  | some z => rw [e] at h; exact ⟨z, rfl, (Option.some.inj h).symm⟩
theorem atL {ls : List (Option (Addr × Lon))} {t : Nat} {o : Option (Addr × Lon)} (h : ls[t]? = some o) : atI (ls.map loV) (t : Int) = some (loV o) := by
  refine atI_nat (j := t) ?_
  rw [List.getElem?_map, h]
  rfl
theorem takeS {α β : Type} {f : α → β} {l : List α} {i : Nat} {z : α} (h : l[i]? = some z) : (l.take (i + 1)).map f = (l.take i).map f ++ [f z] := by
  rw [List.take_succ, h, List.map_append]
  rfl
section
variable {P : Program} {w : World} {K : PySem.W.Frag} {mg : Str → Option Value} {base : Heap}
/-! ### Vault.memory -/
def spVMemory (CV : Addr) : Sp := fun vs H Q _ => ∃ (v dx ca la : Addr) (m : Int) (xs : List V), vs = [.ref v] ∧ H v = some (.ins CV dx (vf m ca la)) ∧ H ca = some (.lst xs) ∧ ∀ p, H p = none → Q (.ref p) (upd H p (.lst xs))
abbrev N_vMemory : List Str := ["self"]
theorem sc_vMemory : FnScope N_vMemory ["self"] (defScope sVMemory) := ⟨rfl, rfl, rfl, by decide +kernel, rfl, by decide +kernel, by decide +kernel⟩
theorem ok_vMemory (T : Top K mg) : FnOk P w K mg base CX0 1 T.vMemory.f T.vMemory.fd ["self"] (spVMemory T.cVault.C) := by
  refine T.vMemory.F.ok sc_vMemory (fun vs H Q E h => ?_) (fun cdv A outer s H vs Q E hr h => ?_)
  · obtain ⟨v, dx, ca, la, m, xs, rfl, _⟩ := h
    rfl
  · obtain ⟨v, dx, ca, la, m, xs, rfl, hv, hc, kk⟩ := h
    refine ⟨_, (pss_one (ps_ret (pe_callTy call_list_of rfl T.zlist (by decide +kernel) (pa_cons (pe_fld (pv 0) rfl) pa_nil)))), ?_⟩
    exact ⟨_, rfl, v, T.cVault.C, dx, _, _, rfl, hv, T.cVault.c, nVc T, vf_c, ca, xs, rfl, .inl (SqL.of hc), kk⟩
/-! ### Vault.found -/
def spVFound (CP CL CV : Addr) : Sp := fun vs H Q _ => ∃ (I : Hp) (v : Addr) (S : VS) (t : Nat) (a : Addr) (L : Lon), vs = [.ref v, .int t] ∧ VSt CP CL CV I H v S ∧ S.ls[t]? = some (some (a, L)) ∧ Q (.ref a) H
abbrev N_vFound : List Str := ["self", "ticket"]
theorem sc_vFound : FnScope N_vFound ["self", "ticket"] (defScope sVFound) := ⟨rfl, rfl, rfl, by decide +kernel, rfl, by decide +kernel, by decide +kernel⟩
theorem ok_vFound (T : Top K mg) : FnOk P w K mg base CX0 3 T.vFound.f T.vFound.fd ["self", "ticket"] (spVFound T.cProgram.C T.cLoan.C T.cVault.C) := by
  refine T.vFound.F.ok sc_vFound (fun vs H Q E h => ?_) (fun cdv A outer s H vs Q E hr h => ?_)
  · obtain ⟨I, v, S, t, a, L, rfl, _⟩ := h
    rfl
  · obtain ⟨I, v, S, t, a, L, rfl, X, ht, kk⟩ := h
    obtain ⟨dx, hv⟩ := X.hv
    have tl : t < S.ls.length := (List.getElem?_eq_some_iff.mp ht).1
    refine ⟨_, (pss_cons (ps_if (PW.pt (pw_or (pt_not (pt_val (pe_call (ok_isNumber T) (hr.mono (by decide)) rfl T.isNumber.g T.isNumber.kp T.isNumber.b .nil pass0 (pa_cons (pv 1) (pa_cons (pe_callB call_len_seq rfl T.zlen (by decide +kernel) (pa_cons (pe_fld (pv 0) rfl) pa_nil)) pa_nil))))) (pw_or1 (pt_cmpR op_isN (pe_ix ix_list (pe_fld (pv 0) rfl) (pv 1) (fun _ _ => rfl)) pe_non (nomark _))))) (pss_one ps_never) pss_nil)
      (pss_one (ps_ret (pe_ix ix_list (pe_fld (pv 0) rfl) (pv 1) (fun _ _ => rfl))))), ?_⟩
    refine ⟨_, rfl, _, rfl, v, T.cVault.C, dx, _, _, rfl, hv, T.cVault.c, nVl T, vf_l, S.la, _, rfl, .inl (SqL.of X.hl), t, _, rfl, by omega, by rw [List.length_map]; omega, _, rfl, iteF ?_⟩
    refine ⟨_, rfl, v, T.cVault.C, dx, _, _, rfl, hv, T.cVault.c, nVl T, vf_l, _, rfl, S.la, _, t, _, rfl, rfl, SqL.of X.hl, atL ht, rfl, _, rfl, ifF (decF (fun z => nomatch z)) ?_⟩
    exact ⟨_, rfl, v, T.cVault.C, dx, _, _, rfl, hv, T.cVault.c, nVl T, vf_l, _, rfl, S.la, _, t, _, rfl, rfl, SqL.of X.hl, atL ht, kk⟩
/-! ### Vault.blocked -/
/-- no later open loan shares a cell -/
def Apart (S : VS) (t : Nat) (L : Lon) : Prop := ∀ (j : Nat) (a' : Addr) (L' : Lon), t < j → S.ls[j]? = some (some (a', L')) → ∀ p ∈ L'.pl, p ∉ L.pl
def Later (S : VS) (t : Nat) : Prop := ∃ (j : Nat) (x : Addr × Lon), t < j ∧ S.ls[j]? = some (some x)
def spVBlocked (CP CL CV : Addr) : Sp := fun vs H Q _ => ∃ (I : Hp) (v : Addr) (S : VS) (t : Nat) (a : Addr) (L : Lon), vs = [.ref v, .int t] ∧ VSt CP CL CV I H v S ∧ S.ls[t]? = some (some (a, L)) ∧
  ∀ b H', Same H H' → (b = false → Apart S t L) → (b = true → Later S t) → Q (.bl b) H'
abbrev N_vBlocked : List Str := ["self", "ticket", "places", "loan", "place"]
theorem sc_vBlocked : FnScope N_vBlocked ["self", "ticket"] (defScope sVBlocked) := ⟨rfl, rfl, rfl, by decide +kernel, rfl, by decide +kernel, by decide +kernel⟩
theorem ok_vBlocked (T : Top K mg) : FnOk P w K mg base CX0 1 T.vBlocked.f T.vBlocked.fd ["self", "ticket"] (spVBlocked T.cProgram.C T.cLoan.C T.cVault.C) := by
  refine T.vBlocked.F.ok sc_vBlocked (fun vs H Q E h => ?_) (fun cdv A outer s H vs Q E hr h => ?_)
  · obtain ⟨I, v, S, t, a, L, rfl, _⟩ := h
    rfl
  · obtain ⟨I, v, S, t, a, L, rfl, X, ht, kk⟩ := h
    obtain ⟨dx, hv⟩ := X.hv
    obtain ⟨_, ⟨dl, pa, la, ga, hA, hPr, hla, hga⟩, okL⟩ := X.lo t a L ht
    refine ⟨_, (pss_cons (ps_set (i := 2) sc_vBlocked.nd rfl (Or.inr rfl) (pe_fld (pe_ix ix_list (pe_fld (pv 0) rfl) (pv 1) (fun _ _ => rfl)) rfl))
      (pss_cons (ps_for PassesOwn.never rfl (pi_list (pe_slice sl_list (pe_fld (pv 0) rfl) (po_some (pe_op op_add (pv 1) pe_int)) po_none)) (pg_name (i := 3) sc_vBlocked.nd rfl (Or.inl rfl)) (pss_one (ps_if (PW.pt (pw_and (pt_cmpR op_notN (pv 3) pe_non (nomark _)) (pw_and1 (pt_val (pe_callB (cr_any rfl) rfl T.zany (by decide +kernel) (pa_cons (pe_lc (own := [("place", 4)]) (g := (gName 4)) (tt := tYes) (te := tOp (rIn K false) (tVar 4) (tVar 2)) rfl sc_vBlocked.nd (pi_list (pe_fld (pv 3) rfl)) (blkOk_by (N := N_vBlocked) (sc := defScope sVBlocked) (own := [("place", 4)]) (by decide +kernel)) (fun _ _ _ _ _ => (pg_name (i := 4) sc_vBlocked.nd rfl (Or.inl rfl))) (fun _ _ _ _ _ => pts_nil) (fun _ _ _ _ _ => (pe_cmpR op_in_seq (pv 4) (pv 2) rfl))) pa_nil)))))) (pss_one (ps_ret pe_bl)) pss_nil)))
      (pss_one (ps_ret pe_bl)))), ?_⟩
    refine ⟨_, rfl, v, T.cVault.C, dx, _, _, rfl, hv, T.cVault.c, nVl T, vf_l, _, rfl, S.la, _, t, _, rfl, rfl, SqL.of X.hl, atL ht, a, T.cLoan.C, dl, _, _, rfl, hA, T.cLoan.c, nLl T, lf_l, ?_⟩
    refine ⟨_, rfl, v, T.cVault.C, dx, _, _, rfl, hv, T.cVault.c, nVl T, vf_l, _, rfl, t, 1, rfl, rfl, _, rfl, S.la, _, rfl, SqL.of X.hl, fun q hq => ?_⟩
    have ec : cutV (S.ls.map loV) (some ((t : Int) + 1)) none = (S.ls.drop (t + 1)).map loV := by
      rw [show ((t : Int) + 1) = ((t + 1 : Nat) : Int) by omega, cut_from, List.map_drop]
    have s0 : Same H (upd H q (.lst (cutV (S.ls.map loV) (some ((t : Int) + 1)) none))) := Same.new hq
    have hq0 : upd H q (.lst (cutV (S.ls.map loV) (some ((t : Int) + 1)) none)) q = some (.lst ((S.ls.drop (t + 1)).map loV)) := by rw [upd_same, ec]
    generalize upd H q (.lst (cutV (S.ls.map loV) (some ((t : Int) + 1)) none)) = H0 at s0 hq0
    refine ⟨q, rfl, ⟨_, SqL.of hq0⟩, for_list (K := K) (a := q) (xs := (S.ls.drop (t + 1)).map loV) (fun i σ H' => ∃ v3, σ = [some (.ref v), some (.int t), some (.ref la), v3, none] ∧ Same H0 H' ∧
        ∀ (j : Nat) (a' : Addr) (L' : Lon), j < i → (S.ls.drop (t + 1))[j]? = some (some (a', L')) → ∀ p ∈ L'.pl, p ∉ L.pl) ⟨none, rfl, Same.refl _, fun j _ _ hj => absurd hj (Nat.not_lt_zero _)⟩ (fun i σ H' _ ⟨_, _, s1, _⟩ => SqL.of (s1 _ _ hq0)) ?_ ?_⟩
    · rintro i x σ H' hx ⟨v3, rfl, s1, ap⟩
      obtain ⟨o, ho, rfl⟩ := getL hx
      have s01 : Same H H' := s0.trans s1
      cases o with
      | none =>
        refine ⟨_, rfl, rfl, _, rfl, ifF (nT (decT rfl)) (iteF ⟨_, rfl, s1, fun j a' L' hj hl => ?_⟩)⟩
        by_cases e : j = i
        · subst e
          rw [ho] at hl
          cases hl
        · exact ap j a' L' (by omega) hl
      | some aL =>
        obtain ⟨a2, L2⟩ := aL
        have hj2 : S.ls[t + 1 + i]? = some (some (a2, L2)) := by rw [← List.getElem?_drop]; exact ho
        obtain ⟨_, ⟨dl2, pa2, la2, ga2, hA2, hPr2, hla2, hga2⟩, okL2⟩ := X.lo _ a2 L2 hj2
        refine ⟨_, rfl, rfl, _, rfl, ifT (nF (decF (fun z => nomatch z))) ?_⟩
        refine ⟨_, rfl, a2, T.cLoan.C, dl2, _, _, rfl, s01 _ _ hA2, T.cLoan.c, nLl T, lf_l, la2, rfl, ⟨_, SqL.of (s01 _ _ (X.sub _ _ hla2))⟩, fun D hD => ?_⟩
        refine lc_list (K := K) (a := la2) (xs := L2.pl.map nV) (fun i H2 => Same H' H2 ∧ H2 D = some (.lst (((L2.pl.take i).map fun p => decide (p ∈ L.pl)).map V.bl))) ⟨Same.new hD, upd_same⟩
          (fun i H2 _ ⟨s2, _⟩ => SqL.of (s2 _ _ (s01 _ _ (X.sub _ _ hla2)))) ?_ ?_
        · rintro k y H2 hy ⟨s2, hD2⟩
          obtain ⟨p, hp, rfl⟩ := getN hy
          refine ⟨rfl, ?_⟩
          refine ⟨_, rfl, _, rfl, la, L.pl.map nV, rfl, .inl (SqL.of (s2 _ _ (s01 _ _ (X.sub _ _ hla)))), flat_one p, flat_nV _, _, hD2, ?_, s2.rewr hD, ?_⟩
          · rw [List.length_map, List.length_map]
            have h1 : (L2.pl.take k).length ≤ L2.pl.length := List.length_take_le' ..
            have h2 := okL2.ll
            have h3 := okL2.p.c2
            exact Nat.lt_of_le_of_lt (show (L2.pl.take k).length ≤ 60 by omega) (by decide)
          · rw [upd_same, takeS hp, List.map_append]
            show some (HO.lst (_ ++ [V.bl (inV (nV p) (L.pl.map nV))])) = _
            rw [inV_nV]
            rfl
        · rintro H2 ⟨s2, hD2⟩
          rw [List.length_map, List.take_length] at hD2
          refine ⟨D, _, rfl, SqL.of hD2, _, rfl, ifb (fun hb => ?_) fun hb => ?_⟩
          · exact kk true H2 (s01.trans s2) (fun z => nomatch z) (fun _ => ⟨_, _, by omega, hj2⟩)
          · refine ⟨_, rfl, s1.trans s2, fun j a' L' hj hl p hp => ?_⟩
            by_cases e : j = i
            · subst e
              rw [ho] at hl
              cases hl
              intro hpL
              have : ((L2.pl.map fun p => decide (p ∈ L.pl)).any id) = true := List.any_eq_true.mpr ⟨true, List.mem_map.mpr ⟨p, hp, decide_eq_true hpL⟩, rfl⟩
              rw [this] at hb
              cases hb
            · exact ap j a' L' (by omega) hl p hp
    · rintro σ H' ⟨v3, rfl, s1, ap⟩
      refine kk false H' (s0.trans s1) (fun _ j a' L' hj hl => ?_) (fun z => nomatch z)
      have hl' : (S.ls.drop (t + 1))[j - (t + 1)]? = some (some (a', L')) := by
        rw [List.getElem?_drop, show t + 1 + (j - (t + 1)) = j by omega]
        exact hl
      have hlt : j < S.ls.length := (List.getElem?_eq_some_iff.mp hl).1
      exact ap (j - (t + 1)) a' L' (by rw [List.length_map, List.length_drop]; omega) hl'
/-! ### Vault.perform -/
def spVPerform (CP CL CV : Addr) : Sp := fun vs H Q _ => ∃ (I : Hp) (v : Addr) (S : VS) (t : Nat) (a : Addr) (L : Lon) (sv : V) (x : Stp), vs = [.ref v, .ref a, sv] ∧ VSt CP CL CV I H v S ∧ S.ls[t]? = some (some (a, L)) ∧ StpAt H sv x ∧ OkS L.P.m L.P.nc L.P.ni x ∧
  ∀ H', H' S.ca = some (.lst ((onS L x S.M).map V.int)) → But S.ca H H' → Q .non H'
abbrev N_vPerform : List Str := ["self", "loan", "step", "cells", "place", "value"]
theorem sc_vPerform : FnScope N_vPerform ["self", "loan", "step"] (defScope sVPerform) := ⟨rfl, rfl, rfl, by decide +kernel, rfl, by decide +kernel, by decide +kernel⟩
theorem ok_vPerform (T : Top K mg) : FnOk P w K mg base CX0 5 T.vPerform.f T.vPerform.fd ["self", "loan", "step"] (spVPerform T.cProgram.C T.cLoan.C T.cVault.C) := by
  refine T.vPerform.F.ok sc_vPerform (fun vs H Q E h => ?_) (fun cdv A outer s H vs Q E hr h => ?_)
  · obtain ⟨I, v, S, t, a, L, sv, x, rfl, _⟩ := h
    rfl
  · obtain ⟨I, v, S, t, a, L, sv, x, rfl, X, ht, hS, hO, kk⟩ := h
    obtain ⟨dx, hv⟩ := X.hv
    obtain ⟨_, ⟨dl, pa, la, ga, hA, hPr, hla, hga⟩, okL⟩ := X.lo t a L ht
    have hla' := X.sub _ _ hla
    have hga' := X.sub _ _ hga
    refine ⟨_, (pss_cons (ps_setLc (i := 3) (own := [("place", 4)]) (g := (gName 4)) (tt := tYes) (te := tOp (rIxL K) (tFld K (tVar 0) "cells") (tVar 4)) rfl sc_vPerform.nd rfl rfl (sw_true rfl rfl rfl (by decide +kernel)) (pi_list (pe_fld (pv 1) rfl)) (blkOk_by (N := N_vPerform) (sc := defScope sVPerform) (own := [("place", 4)]) (by decide +kernel)) (fun _ _ _ _ _ => (pg_name (i := 4) sc_vPerform.nd rfl (Or.inl rfl))) (fun _ _ _ _ _ => pts_nil) (fun _ _ _ _ _ => (pe_ix ix_list (pe_fld (pv 0) rfl) (pv 4) (fun _ _ => rfl))))
      (pss_cons (ps_expr (pe_call (ok_perform T) (hr.mono (by decide)) rfl T.gPs T.perform.kp T.perform.b .nil pass0 (pa_cons (pv 2) (pa_cons (pv 3) (pa_cons (pe_fld (pv 1) rfl) (pa_cons (pe_fld (pv 0) rfl) pa_nil))))))
      (pss_one (ps_for PassesOwn.never rfl (pi_zip rfl T.zzip (pa_cons (pe_fld (pv 1) rfl) (pa_cons (pv 3) pa_nil))) (pg_tup rfl (pgs_cons (pg_name (i := 4) sc_vPerform.nd rfl (Or.inl rfl)) (pgs_cons (pg_name (i := 5) sc_vPerform.nd rfl (Or.inl rfl)) pgs_nil))) (pss_one (ps_asg (pv 5) (pg_sub (pe_fld (pv 0) rfl) (pv 4) set_list))))))), ?_⟩
    -- cells = [self.cells[place] for place in loan.places]
    refine ⟨_, rfl, a, T.cLoan.C, dl, _, _, rfl, hA, T.cLoan.c, nLl T, lf_l, la, rfl, ⟨_, SqL.of hla'⟩, fun D hD => ?_⟩
    refine lc_list (K := K) (a := la) (xs := L.pl.map nV) (fun i H2 => Same H H2 ∧ H2 D = some (.lst ((gat (L.pl.take i) S.M).map V.int))) ⟨Same.new hD, upd_same⟩ (fun i H2 _ ⟨s2, _⟩ => SqL.of (s2 _ _ hla')) ?_ ?_
    · rintro k y H2 hy ⟨s2, hD2⟩
      obtain ⟨p, hp, rfl⟩ := getN hy
      have pl : p < S.M.length := okL.lt p (List.mem_of_getElem? hp)
      refine ⟨rfl, ?_⟩
      refine ⟨_, rfl, v, T.cVault.C, dx, _, _, rfl, s2 _ _ hv, T.cVault.c, nVc T, vf_c, _, rfl, S.ca, _, (p : Int), _, rfl, rfl, SqL.of (s2 _ _ X.hc), atM pl, _, hD2, ?_, s2.rewr hD, ?_⟩
      · rw [List.length_map, gat_len]
        have h1 : (L.pl.take k).length ≤ L.pl.length := List.length_take_le' ..
        have h2 := okL.ll
        have h3 := okL.p.c2
        exact Nat.lt_of_le_of_lt (show (L.pl.take k).length ≤ 60 by omega) (by decide)
      · unfold gat
        rw [upd_same, takeS hp, List.map_append]
        rfl
    · rintro H2 ⟨s2, hD2⟩
      rw [List.length_map, List.take_length] at hD2
      -- perform_steps(step, cells, loan.given, self.modulus)
      refine ⟨_, rfl, _, rfl, _, rfl, a, T.cLoan.C, dl, _, _, rfl, s2 _ _ hA, T.cLoan.c, nLg T, lf_g, _, rfl, v, T.cVault.C, dx, _, _, rfl, s2 _ _ hv, T.cVault.c, nVm T, vf_m,
        sv, D, ga, S.m, L.P.nc, L.P.ni, x, gat L.pl S.M, L.g, rfl, hS.mono s2, (by rw [← okL.pm]; exact hO), hD2, SqL.of (s2 _ _ hga'), (by rw [gat_len]; exact okL.ll), okL.gl, gat_rng X.rng okL.lt, X.m2, X.mm, fun H3 hD3 b3 => ?_⟩
      have b03 : ∀ b o, H b = some o → H3 b = some o := fun b o e => b3 b o (ne_of_none e hD) (s2 _ _ e)
      have hl2 : (L.pl.map nV).length = ((doS S.m L.g x (gat L.pl S.M)).map V.int).length := by rw [List.length_map, List.length_map, doS_len, gat_len]
      -- for place, value in zip(loan.places, cells): self.cells[place] = value
      refine ⟨_, rfl, a, T.cLoan.C, dl, _, _, rfl, b03 _ _ hA, T.cLoan.c, nLl T, lf_l, _, rfl, la, D, _, _, rfl, SqL.of (b03 _ _ hla'), SqL.of hD3, RZ.for_zipL hl2 (fun i σ H' => ∃ v4 v5, σ = [some (.ref v), some (.ref a), some sv, some (.ref D), v4, v5] ∧
          H' S.ca = some (.lst ((((List.zip L.pl (doS S.m L.g x (gat L.pl S.M))).take i).foldl (fun M q => M.set q.1 q.2) S.M).map V.int)) ∧ But S.ca H3 H')
        ⟨none, none, rfl, b03 _ _ X.hc, But.refl _ _⟩ (fun i σ H' ⟨_, _, _, _, b4⟩ => ⟨SqL.of (b4 _ _ ?_ (b03 _ _ hla')), SqL.of (b4 _ _ ?_ hD3)⟩) ?_ ?_⟩
      · intro z
        rw [z, X.nc] at hla
        cases hla
      · intro z
        rw [z, X.hc] at hD
        cases hD
      · rintro i y z Tp σ H4 hy hz ⟨v4, v5, rfl, hc4, b4⟩ nT4
        obtain ⟨p, hp, rfl⟩ := getN hy
        obtain ⟨u, hu, rfl⟩ := getI hz
        have pl : p < S.M.length := okL.lt p (List.mem_of_getElem? hp)
        have nc : Tp ≠ S.ca := fun e => by rw [e, hc4] at nT4; cases nT4
        have vnc : v ≠ S.ca := ne_of hv X.hc (by intro z; cases z)
        have tnv : v ≠ Tp := ne_of_none (b4 _ _ vnc (b03 _ _ hv)) nT4
        refine ⟨Tp, _, rfl, SqT.of upd_same, rfl, _, _, rfl, _, _, rfl, rfl, ?_⟩
        refine ⟨_, rfl, _, rfl, v, T.cVault.C, dx, _, _, rfl, (by rw [upd_ne tnv]; exact b4 _ _ vnc (b03 _ _ hv)), T.cVault.c, nVc T, vf_c, _, rfl, S.ca, _, (p : Int), p, rfl, rfl, (by rw [upd_ne nc.symm]; exact hc4), ?_, some (nV p), some (.int u), rfl, ?_, ?_⟩
        · refine ixn ?_
          rw [List.length_map]
          have : ∀ (q : List (Nat × Int)) (M : List Int), (q.foldl (fun M q => M.set q.1 q.2) M).length = M.length := by
            intro q
            induction q with
            | nil => intro M; rfl
            | cons a r ih => intro M; show (r.foldl _ (M.set a.1 a.2)).length = _; rw [ih, List.length_set]
          rw [this]
          exact pl
        · rw [upd_same, map_set_int, fold_take (fun (M : List Int) (q : Nat × Int) => M.set q.1 q.2) S.M (a := (p, u)) (List.getElem?_zip_eq_some.mpr ⟨hp, hu⟩)]
        · refine But.upd fun b o hb e => ?_
          have e4 := b4 b o hb e
          rw [upd_ne (ne_of_none e4 nT4)]
          exact e4
      · rintro σ H4 ⟨v4, v5, rfl, hc4, b4⟩
        refine kk H4 ?_ fun b o hb e => b4 b o hb (b03 b o e)
        rw [hc4, List.take_of_length_le (by rw [List.length_zip, List.length_map]; exact Nat.min_le_left _ _)]
        unfold onS sct
        rw [okL.pm]
end
theorem pd_drop {α β : Type} {R : α → β → Prop} : ∀ (n : Nat) {l : List α} {m : List β}, Paired R l m → Paired R (l.drop n) (m.drop n)
  | 0, _, _, h => h
  | _ + 1, _, _, .nil => .nil
  | n + 1, _, _, .cons _ t => pd_drop n t
theorem pd_take {α β : Type} {R : α → β → Prop} : ∀ (n : Nat) {l : List α} {m : List β}, Paired R l m → Paired R (l.take n) (m.take n)
  | 0, _, _, _ => .nil
  | _ + 1, _, _, .nil => .nil
  | n + 1, _, _, .cons r t => .cons r (pd_take n t)
theorem pd_append {α β : Type} {R : α → β → Prop} : ∀ {l l' : List α} {m m' : List β}, Paired R l m → Paired R l' m' → Paired R (l ++ l') (m ++ m')
  | _, _, _, _, .nil, h => h
  | _, _, _, _, .cons r t, h => .cons r (pd_append t h)
theorem pd_rev {α β : Type} {R : α → β → Prop} : ∀ {l : List α} {m : List β}, Paired R l m → Paired R l.reverse m.reverse
  | _, _, .nil => .nil
  | _, _, .cons r t => by
    rw [List.reverse_cons, List.reverse_cons]
    exact pd_append (pd_rev t) (.cons r .nil)
theorem runS_step {L : Lon} {xs : List Stp} {M : List Int} {i : Nat} {x : Stp} (h : xs[i]? = some x) : runS L (xs.take (i + 1)) M = onS L x (runS L (xs.take i) M) := fold_take _ _ h
theorem runS_len {L : Lon} : ∀ {xs : List Stp} {M : List Int}, (runS L xs M).length = M.length
  | [], _ => rfl
  | x :: r, M => by
    show (runS L r (onS L x M)).length = M.length
    rw [runS_len, onS_len]
theorem runS_rng {L : Lon} {m : Int} : ∀ {xs : List Stp} {M : List Int}, OkL m M.length L → (∀ x ∈ xs, OkS L.P.m L.P.nc L.P.ni x) → Rng m M → Rng m (runS L xs M)
  | [], _, _, _, h => h
  | x :: r, M, hL, hx, h => runS_rng (xs := r) (M := onS L x M) (by rw [onS_len]; exact hL) (fun y hy => hx y (List.mem_cons_of_mem _ hy)) (onS_rng hL h (hx x List.mem_cons_self))
section
variable {CP CL CV : Addr} {I H H' : Hp} {v : Addr} {S : VS}
/-- the cells are changed -/
theorem VSt.setM (X : VSt CP CL CV I H v S) {M' : List Int} (hc : H' S.ca = some (.lst (M'.map V.int))) (b : But S.ca H H') (hl : M'.length = S.M.length) (hr : Rng S.m M') : VSt CP CL CV I H' v ⟨S.m, S.ca, S.la, M', S.ls⟩ where
  sub := fun b' o e => b b' o (fun z => by rw [z, X.nc] at e; cases e) (X.sub _ _ e)
  iv := X.iv
  hc := hc
  nc := X.nc
  hl := b _ _ X.ca_ne_la.symm X.hl
  nl := X.nl
  lo := fun i a L h => by
    obtain ⟨h1, h2, h3⟩ := X.lo i a L h
    refine ⟨h1, h2.mono (Same.refl _) (fun o e => b _ _ (X.lo_ne h).1 e), ?_⟩
    show OkL S.m M'.length L
    rw [hl]
    exact h3
  inj := X.inj
  m2 := X.m2
  mm := X.mm
  rng := hr
  l1 := by show 1 ≤ M'.length; rw [hl]; exact X.l1
  l2 := by show M'.length ≤ 200; rw [hl]; exact X.l2
/-- a loan's count is changed -/
theorem VSt.setD (X : VSt CP CL CV I H v S) {t : Nat} {a : Addr} {L : Lon} (ht : S.ls[t]? = some (some (a, L))) {dx pa la ga : Addr} {d : Nat} (hA : H a = some (.ins CL dx (lf pa la ga L.bg L.done)))
    (hH : H' = upd H a (.ins CL dx (lf pa la ga L.bg d))) (hP : ProgAt CP I pa L.P) (hla : I la = some (.lst (L.pl.map nV))) (hga : I ga = some (.lst (L.g.map V.int))) (hd : d ≤ L.P.ss.length) :
    VSt CP CL CV I H' v ⟨S.m, S.ca, S.la, S.M, S.ls.set t (some (a, ⟨L.P, L.pl, L.g, L.bg, d⟩))⟩ := by
  obtain ⟨ia, _, okL⟩ := X.lo t a L ht
  obtain ⟨nca, nla⟩ := X.lo_ne ht
  have tl : t < S.ls.length := (List.getElem?_eq_some_iff.mp ht).1
  have mp : (S.ls.set t (some (a, ⟨L.P, L.pl, L.g, L.bg, d⟩))).map loV = S.ls.map loV := by
    apply List.ext_getElem?
    intro j
    rw [List.getElem?_map, List.getElem?_map]
    by_cases c : t = j
    · subst c
      rw [List.getElem?_set_self tl, ht]
      rfl
    · rw [List.getElem?_set_ne c]
  have get : ∀ (i : Nat) (a' : Addr) (L' : Lon), (S.ls.set t (some (a, ⟨L.P, L.pl, L.g, L.bg, d⟩)))[i]? = some (some (a', L')) → (i = t ∧ a' = a ∧ L' = ⟨L.P, L.pl, L.g, L.bg, d⟩) ∨ (i ≠ t ∧ S.ls[i]? = some (some (a', L'))) := by
    intro i a' L' h
    by_cases c : t = i
    · subst c
      rw [List.getElem?_set_self tl] at h
      cases h
      exact .inl ⟨rfl, rfl, rfl⟩
    · rw [List.getElem?_set_ne c] at h
      exact .inr ⟨fun z => c z.symm, h⟩
  subst hH
  refine ⟨fun b o e => ?_, X.iv, ?_, X.nc, ?_, X.nl, fun i a' L' h => ?_, fun i j a' L1 L2 h1 h2 => ?_, X.m2, X.mm, X.rng, X.l1, X.l2⟩
  · rw [upd_ne fun z => by rw [z, ia] at e; cases e]
    exact X.sub _ _ e
  · rw [upd_ne nca.symm]
    exact X.hc
  · rw [upd_ne nla.symm, X.hl, mp]
  · rcases get i a' L' h with ⟨_, rfl, rfl⟩ | ⟨c, h'⟩
    · exact ⟨ia, ⟨dx, pa, la, ga, upd_same, hP, hla, hga⟩, ⟨okL.p, okL.pm, okL.ll, okL.nd, okL.lt, okL.gl, hd⟩⟩
    · obtain ⟨g1, g2, g3⟩ := X.lo i a' L' h'
      have ne : a' ≠ a := fun z => by subst z; exact c (X.inj _ _ _ _ _ h' ht)
      exact ⟨g1, g2.mono (Same.refl _) (fun o e => by rw [upd_ne ne]; exact e), g3⟩
  · rcases get i a' L1 h1 with ⟨e1, e2, _⟩ | ⟨c1, h1'⟩
    · rcases get j a' L2 h2 with ⟨e3, _, _⟩ | ⟨c2, h2'⟩
      · rw [e1, e3]
      · rw [e2] at h2'
        exact absurd (X.inj _ _ _ _ _ h2' ht) c2
    · rcases get j a' L2 h2 with ⟨e3, e4, _⟩ | ⟨c2, h2'⟩
      · rw [e4] at h1'
        exact absurd (X.inj _ _ _ _ _ h1' ht) c1
      · exact X.inj _ _ _ _ _ h1' h2'
/-- a loan is closed -/
theorem VSt.setN (X : VSt CP CL CV I H v S) {t : Nat} (tl : t < S.ls.length) (hH : H' = upd H S.la (.lst ((S.ls.map loV).set t .non))) : VSt CP CL CV I H' v ⟨S.m, S.ca, S.la, S.M, S.ls.set t none⟩ := by
  have get : ∀ (i : Nat) (a' : Addr) (L' : Lon), (S.ls.set t none)[i]? = some (some (a', L')) → S.ls[i]? = some (some (a', L')) := by
    intro i a' L' h
    by_cases c : t = i
    · subst c
      rw [List.getElem?_set_self tl] at h
      cases h
    · rw [List.getElem?_set_ne c] at h
      exact h
  subst hH
  refine ⟨fun b o e => ?_, X.iv, ?_, X.nc, ?_, X.nl, fun i a' L' h => ?_, fun i j a' L1 L2 h1 h2 => X.inj _ _ _ _ _ (get _ _ _ h1) (get _ _ _ h2), X.m2, X.mm, X.rng, X.l1, X.l2⟩
  · rw [upd_ne fun z => by rw [z, X.nl] at e; cases e]
    exact X.sub _ _ e
  · rw [upd_ne X.ca_ne_la]
    exact X.hc
  · rw [upd_same, List.map_set]
    rfl
  · obtain ⟨g1, g2, g3⟩ := X.lo i a' L' (get _ _ _ h)
    exact ⟨g1, g2.mono (Same.refl _) (fun o e => by rw [upd_ne (X.lo_ne (get _ _ _ h)).2]; exact e), g3⟩
/-- a loan is added -/
theorem VSt.add (X : VSt CP CL CV I H v S) {I' : Hp} {x : Addr} {L : Lon} (sI : Same I I') (s' : Same I' H') (nn : ∀ b, H b ≠ none → I b = none → I' b = none) (hl : H' S.la = some (.lst (S.ls.map loV ++ [.ref x])))
    (b : But S.la H H') (hx : H x = none) (ix : I' x = none) (hL : LonAt CP CL I' H' x L) (ok : OkL S.m S.M.length L) : VSt CP CL CV I' H' v ⟨S.m, S.ca, S.la, S.M, S.ls ++ [some (x, L)]⟩ := by
  have get : ∀ (i : Nat) (a' : Addr) (L' : Lon), (S.ls ++ [some (x, L)])[i]? = some (some (a', L')) → S.ls[i]? = some (some (a', L')) ∨ (i = S.ls.length ∧ a' = x ∧ L' = L) := by
    intro i a' L' h
    by_cases c : i < S.ls.length
    · rw [List.getElem?_append_left c] at h
      exact .inl h
    · rw [List.getElem?_append_right (by omega)] at h
      by_cases c2 : i = S.ls.length
      · subst c2
        rw [Nat.sub_self] at h
        cases h
        exact .inr ⟨rfl, rfl, rfl⟩
      · rw [List.getElem?_eq_none (by show 1 ≤ i - S.ls.length; omega)] at h
        cases h
  have old : ∀ (i : Nat) (a' : Addr) (L' : Lon), S.ls[i]? = some (some (a', L')) → a' ≠ x := by
    intro i a' L' h z
    obtain ⟨_, ⟨_, _, _, _, e, _⟩, _⟩ := X.lo i a' L' h
    rw [z, hx] at e
    cases e
  obtain ⟨dv, iv⟩ := X.iv
  refine ⟨s', ⟨dv, sI _ _ iv⟩, b _ _ X.ca_ne_la X.hc, nn _ (by rw [X.hc]; exact fun z => nomatch z) X.nc, ?_, nn _ (by rw [X.hl]; exact fun z => nomatch z) X.nl, fun i a' L' h => ?_, fun i j a' L1 L2 h1 h2 => ?_, X.m2, X.mm, X.rng, X.l1, X.l2⟩
  · rw [hl, List.map_append]
    rfl
  · rcases get i a' L' h with h' | ⟨_, rfl, rfl⟩
    · obtain ⟨g1, g2, g3⟩ := X.lo i a' L' h'
      obtain ⟨_, _, _, _, e, _⟩ := id g2
      exact ⟨nn _ (by rw [e]; exact fun z => nomatch z) g1, g2.mono sI (fun o e => b _ _ (X.lo_ne h').2 e), g3⟩
    · exact ⟨ix, hL, ok⟩
  · rcases get i a' L1 h1 with h1' | ⟨e1, rfl, _⟩
    · rcases get j a' L2 h2 with h2' | ⟨e2, rfl, _⟩
      · exact X.inj _ _ _ _ _ h1' h2'
      · exact absurd rfl (old _ _ _ h1')
    · rcases get j a' L2 h2 with h2' | ⟨e2, _, _⟩
      · exact absurd rfl (old _ _ _ h2')
      · rw [e1, e2]
end
/-- the tickets of the open loans below n -/
def opn (ls : List (Option (Addr × Lon))) (n : Nat) : List Nat := (List.range n).filter fun j => match ls[j]? with | some (some _) => true | _ => false
theorem opn_len (ls : List (Option (Addr × Lon))) (n : Nat) : (opn ls n).length ≤ n := by
  have h := List.length_filter_le (fun j => match ls[j]? with | some (some _) => true | _ => false) (List.range n)
  rw [List.length_range] at h
  exact h
section
variable {P : Program} {w : World} {K : PySem.W.Frag} {mg : Str → Option Value} {base : Heap}
/-! ### Vault.open_loans -/
def spVOpenLoans (CP CL CV : Addr) : Sp := fun vs H Q _ => ∃ (I : Hp) (v : Addr) (S : VS), vs = [.ref v] ∧ VSt CP CL CV I H v S ∧ S.ls.length ≤ 100 ∧ ∀ p H', H p = none → Same H H' → H' p = some (.lst ((opn S.ls S.ls.length).map nV)) → Q (.ref p) H'
abbrev N_vOpenLoans : List Str := ["self", "ticket", "loan"]
theorem sc_vOpenLoans : FnScope N_vOpenLoans ["self"] (defScope sVOpenLoans) := ⟨rfl, rfl, rfl, by decide +kernel, rfl, by decide +kernel, by decide +kernel⟩
theorem ok_vOpenLoans (T : Top K mg) : FnOk P w K mg base CX0 1 T.vOpenLoans.f T.vOpenLoans.fd ["self"] (spVOpenLoans T.cProgram.C T.cLoan.C T.cVault.C) := by
  refine T.vOpenLoans.F.ok sc_vOpenLoans (fun vs H Q E h => ?_) (fun cdv A outer s H vs Q E hr h => ?_)
  · obtain ⟨I, v, S, rfl, _⟩ := h
    rfl
  · obtain ⟨I, v, S, rfl, X, hsz, kk⟩ := h
    obtain ⟨dx, hv⟩ := X.hv
    refine ⟨_, (pss_one (ps_ret (pe_lc (own := [("ticket", 1), ("loan", 2)]) (g := (gTup _ 2 (gCons (gName 1) (gCons (gName 2) gNil)))) rfl sc_vOpenLoans.nd (pi_enum rfl T.zenumerate (pa_cons (pe_fld (pv 0) rfl) pa_nil)) (blkOk_by (N := N_vOpenLoans) (sc := defScope sVOpenLoans) (own := [("ticket", 1), ("loan", 2)]) (by decide +kernel)) (fun _ _ _ _ _ => (pg_tup rfl (pgs_cons (pg_name (i := 1) sc_vOpenLoans.nd rfl (Or.inl rfl)) (pgs_cons (pg_name (i := 2) sc_vOpenLoans.nd rfl (Or.inl rfl)) pgs_nil)))) (fun _ _ _ _ _ => (pts_one (pt_cmpR op_notN (pv 2) pe_non (nomark _)))) (fun _ _ _ _ _ => (pv 1))))), ?_⟩
    refine ⟨_, rfl, v, T.cVault.C, dx, _, _, rfl, hv, T.cVault.c, nVl T, vf_l, S.la, _, rfl, SqL.of X.hl, fun D hD => ?_⟩
    refine lc_it (walk_enum (K := K) (a := S.la) (xs := S.ls.map loV)) (fun i H2 => Same H H2 ∧ H2 D = some (.lst ((opn S.ls i).map nV))) ⟨Same.new hD, upd_same⟩ (fun i H2 _ ⟨s2, _⟩ => SqL.of (s2 _ _ X.hl)) ?_ ?_
    · rintro i x H2 H3 hi ⟨s2, hD2⟩ ⟨Tp, x1, x2, rfl, nTp, rfl, h1, h2⟩
      cases h1
      obtain ⟨o, ho, rfl⟩ := getL h2
      have tD : Tp ≠ D := fun z => by rw [z, hD2] at nTp; cases nTp
      have s3 : Same H (upd H2 Tp (.tup [.int (i : Nat), loV o])) := s2.newer nTp
      have hD3 : upd H2 Tp (.tup [.int (i : Nat), loV o]) D = some (.lst ((opn S.ls i).map nV)) := by rw [upd_ne tD.symm]; exact hD2
      refine ⟨Tp, _, rfl, SqT.of upd_same, rfl, _, _, rfl, _, _, rfl, rfl, rfl, ?_⟩
      cases o with
      | none =>
        refine ⟨_, rfl, rfl, _, rfl, ifF (nT (decT rfl)) ⟨s3, ?_⟩⟩
        rw [hD3]
        unfold opn
        rw [List.range_succ, List.filter_append]
        simp [ho]
      | some aL =>
        obtain ⟨a, L⟩ := aL
        refine ⟨_, rfl, rfl, _, rfl, ifT (nF (decF (fun z => nomatch z))) ⟨_, rfl, _, hD3, ?_, s3.rewr hD, ?_⟩⟩
        · rw [List.length_map]
          have q1 := opn_len S.ls i
          rw [List.length_map] at hi
          exact Nat.lt_of_le_of_lt (show (opn S.ls i).length ≤ 100 by omega) (by decide)
        · rw [upd_same]
          unfold opn
          rw [List.range_succ, List.filter_append, List.map_append]
          simp [ho]
    · rintro H2 ⟨s2, hD2⟩
      rw [List.length_map] at hD2
      exact kk D H2 hD s2 hD2
end
theorem ps_busy {X : Cx} {W : WX} {m : Str} {j : Nat} {p p2 pos pos2 : Pos} (hc : X.calm = true) (tk : Takes X W) (T : Top X.K X.mg) (hg : Gl X "Busy") :
    PS X (.Raise (some (.Call (.Name "Busy" p) [.Constant (.str m) j p2] [] pos)) none pos2) (fun _ σ H => W (.ref T.xBusy.C) none σ H) :=
  ps_raise hc tk (pmk_own PySem.F.excBase_ValueError T.xBusy.x T.xBusy.g T.xBusy.kp (raises_own T.xBusy.sb T.xBusy.ty) hg)
section
variable {P : Program} {w : World} {K : PySem.W.Frag} {mg : Str → Option Value} {base : Heap}
/-! ### Vault.advance -/
def spVAdvance (CP CL CV CB : Addr) : Sp := fun vs H Q E => ∃ (I : Hp) (v : Addr) (S : VS) (t : Nat) (a : Addr) (L : Lon) (n : Nat), vs = [.ref v, .int t, .int n] ∧ VSt CP CL CV I H v S ∧ S.ls[t]? = some (some (a, L)) ∧
  (∀ H', Same H H' → E (.ref CB) none H') ∧
  ∀ (H' : Hp) (k : Nat), k = ((L.P.ss.drop L.done).take n).length → Apart S t L →
    VSt CP CL CV I H' v ⟨S.m, S.ca, S.la, runS L ((L.P.ss.drop L.done).take n) S.M, S.ls.set t (some (a, ⟨L.P, L.pl, L.g, L.bg, L.done + k⟩))⟩ → Fr (Mu S) H H' → Q (.int k) H'
abbrev N_vAdvance : List Str := ["self", "ticket", "most", "loan", "steps", "step"]
theorem sc_vAdvance : FnScope N_vAdvance ["self", "ticket", "most"] (defScope sVAdvance) := ⟨rfl, rfl, rfl, by decide +kernel, rfl, by decide +kernel, by decide +kernel⟩
theorem ok_vAdvance (T : Top K mg) : FnOk P w K mg base (L2.CX P w) 6 T.vAdvance.f T.vAdvance.fd ["self", "ticket", "most"] (spVAdvance T.cProgram.C T.cLoan.C T.cVault.C T.xBusy.C) := by
  refine T.vAdvance.F.okX sc_vAdvance (fun vs H Q E h => ?_) (fun cdv A outer s H vs Q E hr h => ?_)
  · obtain ⟨I, v, S, t, a, L, n, rfl, _⟩ := h
    rfl
  · obtain ⟨I, v, S, t, a, L, n, rfl, X, ht, kB, kk⟩ := h
    obtain ⟨dx, hv⟩ := X.hv
    obtain ⟨ia, ⟨dl, pa, la, ga, hA, hPr, hla, hga⟩, okL⟩ := X.lo t a L ht
    obtain ⟨dp, sl, svs, hpa, hsl, hSS⟩ := id hPr
    obtain ⟨nca, nla⟩ := X.lo_ne ht
    refine ⟨_, (pss_cons (ps_set (i := 3) sc_vAdvance.nd rfl (Or.inl rfl) (pe_meth (pv 0) T.cVault.c T.vFound.m (ok_vFound T) (hr.mono (by decide)) T.vFound.b .nil pass0 (pa_cons (pv 1) pa_nil)))
      (pss_cons (ps_if (PW.pt (pw_or (pt_not (pt_val (pe_call (ok_isInteger T) (hr.mono (by decide)) rfl T.isInteger.g T.isInteger.kp T.isInteger.b .nil pass0 (pa_cons (pv 2) pa_nil)))) (pw_or1 (pt_cmpR op_lt (pv 2) pe_int (nomark _))))) (pss_one ps_never) pss_nil)
      (pss_cons (ps_if (pt_val (pe_meth (pv 0) T.cVault.c T.vBlocked.m (ok_vBlocked T) (hr.mono (by decide)) T.vBlocked.b .nil pass0 (pa_cons (pv 1) pa_nil))) (pss_one (ps_busy rfl (takes_of rfl rfl rfl rfl) T rfl)) pss_nil)
      (PSs.nox (pss_cons (ps_set (i := 4) sc_vAdvance.nd rfl (Or.inl rfl) (pe_slice sl_list (pe_fld (pe_fld (pv 3) rfl) rfl) (po_some (pe_fld (pv 3) rfl)) (po_some (pe_op op_add (pe_fld (pv 3) rfl) (pv 2)))))
      (pss_cons (ps_for PassesOwn.never rfl (pi_list (pv 4)) (pg_name (i := 5) sc_vAdvance.nd rfl (Or.inl rfl)) (pss_one (ps_expr (pe_meth (pv 0) T.cVault.c T.vPerform.m (ok_vPerform T) (hr.mono (by decide)) T.vPerform.b .nil pass0 (pa_cons (pv 3) (pa_cons (pv 5) pa_nil))))))
      (pss_cons (ps_fldaug (pv 3) (pe_callB call_len_seq rfl T.zlen (by decide +kernel) (pa_cons (pv 4) pa_nil)) in_add)
      (pss_one (ps_ret (pe_callB call_len_seq rfl T.zlen (by decide +kernel) (pa_cons (pv 4) pa_nil))))))))))), ?_⟩
    refine ⟨_, rfl, v, dx, _, rfl, hv, vf_found, _, rfl, I, v, S, t, a, L, rfl, X, ht, ?_⟩
    refine ⟨_, rfl, n, rfl, _, rfl, iteF ⟨_, rfl, n, 0, rfl, rfl, _, rfl, ifF (decide_eq_false (by omega)) ?_⟩⟩
    refine ⟨_, rfl, v, dx, _, rfl, hv, vf_blocked, _, rfl, I, v, S, t, a, L, rfl, X, ht, fun b H1 s1 hb0 hb1 => ⟨b, rfl, ifb (fun hb => kB H1 s1) fun hb => ?_⟩⟩
    have ap := hb0 hb
    have X1 := X.same s1
    -- steps = loan.program.steps[loan.done:loan.done + most]
    have hA1 := s1 _ _ hA
    have hv1 := s1 _ _ hv
    refine ⟨_, rfl, a, T.cLoan.C, dl, _, _, rfl, hA1, T.cLoan.c, nLp T, lf_p, pa, T.cProgram.C, dp, _, _, rfl, s1 _ _ (X.sub _ _ hpa), T.cProgram.c, nPs T, pf_s,
      _, rfl, a, T.cLoan.C, dl, _, _, rfl, hA1, T.cLoan.c, nLd T, lf_d, L.done, rfl, _, rfl, a, T.cLoan.C, dl, _, _, rfl, hA1, T.cLoan.c, nLd T, lf_d, _, rfl, L.done, n, rfl, rfl, _, rfl, sl, svs, rfl, SqL.of (s1 _ _ (X.sub _ _ hsl)), fun q hq => ?_⟩
    have hdn : L.done ≤ svs.length := by rw [pd_len hSS]; exact okL.dn
    rw [cut_mid svs L.done n hdn]
    have s2 : Same H1 (upd H1 q (.lst ((svs.drop L.done).take n))) := Same.new hq
    have hq2 : upd H1 q (.lst ((svs.drop L.done).take n)) q = some (.lst ((svs.drop L.done).take n)) := upd_same
    generalize upd H1 q (.lst ((svs.drop L.done).take n)) = H2 at s2 hq2
    have s02 : Same H H2 := s1.trans s2
    have hPP : Paired (StpAt I) ((svs.drop L.done).take n) ((L.P.ss.drop L.done).take n) := pd_take n (pd_drop L.done hSS)
    have okX : ∀ x ∈ (L.P.ss.drop L.done).take n, OkS L.P.m L.P.nc L.P.ni x := fun x hx => okL.p.ok x (List.mem_of_mem_drop (List.mem_of_mem_take hx))
    have hqca : q ≠ S.ca := fun z => by rw [z, X1.hc] at hq; cases hq
    refine ⟨_, rfl, q, rfl, ⟨_, SqL.of hq2⟩, for_list (K := K) (a := q) (xs := (svs.drop L.done).take n) (fun i σ H' => ∃ v5, σ = [some (.ref v), some (.int t), some (.int n), some (.ref a), some (.ref q), v5] ∧
        VSt T.cProgram.C T.cLoan.C T.cVault.C I H' v ⟨S.m, S.ca, S.la, runS L (((L.P.ss.drop L.done).take n).take i) S.M, S.ls⟩ ∧ But S.ca H2 H') ⟨none, rfl, X1.same s2, But.refl _ _⟩ (fun i σ H' _ ⟨_, _, _, b⟩ => SqL.of (b _ _ hqca hq2)) ?_ ?_⟩
    · rintro i y σ H3 hy ⟨v5, rfl, X3, b3⟩
      obtain ⟨x, hx, hS⟩ := pd_get hPP hy
      obtain ⟨dx3, hv3⟩ := X3.hv
      refine ⟨_, rfl, v, dx3, _, rfl, hv3, vf_perform, _, rfl, _, rfl, I, v, _, t, a, L, y, x, rfl, X3, ht, hS.mono X3.sub, okX x (List.mem_of_getElem? hx), fun H4 hc4 b4 => ⟨_, rfl, ?_, b3.trans b4⟩⟩
      rw [runS_step hx]
      refine X3.setM hc4 b4 onS_len (onS_rng ?_ X3.rng (okX x (List.mem_of_getElem? hx)))
      exact (X3.lo t a L ht).2.2
    · rintro σ H3 ⟨v5, rfl, X3, b3⟩
      rw [pd_len hPP, List.take_length] at X3
      have hq3 := b3 _ _ hqca hq2
      have hA3 := b3 _ _ nca (s02 _ _ hA)
      -- loan.done += len(steps)
      refine ⟨_, rfl, a, T.cLoan.C, dl, _, _, rfl, hA3, T.cLoan.c, nLd T, lf_d, _, rfl, q, _, rfl, .inl (SqL.of hq3), _, _, rfl, rfl, dl, _, hA3, (by show 5 < 1000; decide), ?_⟩
      rw [lf_put]
      have hqa : q ≠ a := ne_of hq3 hA3 (by intro z; cases z)
      refine ⟨_, rfl, q, _, rfl, .inl (SqL.of (by rw [upd_ne hqa]; exact hq3)), ?_⟩
      rw [pd_len hPP]
      have hk : L.done + ((L.P.ss.drop L.done).take n).length ≤ L.P.ss.length := by
        rw [List.length_take, List.length_drop]
        have := okL.dn
        omega
      have X4 := X3.setD (d := L.done + ((L.P.ss.drop L.done).take n).length) ht hA3 rfl hPr hla hga hk
      refine kk _ _ rfl ap ?_ ?_
      · exact X4
      · intro b o hb e
        have h1 : b ≠ S.ca := fun z => hb (.inl z)
        have h2 : b ≠ a := fun z => hb (.inr (.inr ⟨t, L, by rw [z]; exact ht⟩))
        rw [upd_ne h2]
        exact b3 _ _ h1 (s02 _ _ e)
/-! ### Vault.answer -/
def spVAnswer (CP CL CV CB : Addr) : Sp := fun vs H Q E => ∃ (I : Hp) (v : Addr) (S : VS) (t : Nat) (a : Addr) (L : Lon), vs = [.ref v, .int t] ∧ VSt CP CL CV I H v S ∧ S.ls[t]? = some (some (a, L)) ∧
  (∀ H', Same H H' → E (.ref CB) none H') ∧ ∀ z H', Same H H' → Q (.int z) H'
abbrev N_vAnswer : List Str := ["self", "ticket", "loan"]
theorem sc_vAnswer : FnScope N_vAnswer ["self", "ticket"] (defScope sVAnswer) := ⟨rfl, rfl, rfl, by decide +kernel, rfl, by decide +kernel, by decide +kernel⟩
theorem ok_vAnswer (T : Top K mg) : FnOk P w K mg base (L2.CX P w) 4 T.vAnswer.f T.vAnswer.fd ["self", "ticket"] (spVAnswer T.cProgram.C T.cLoan.C T.cVault.C T.xBusy.C) := by
  refine T.vAnswer.F.okX sc_vAnswer (fun vs H Q E h => ?_) (fun cdv A outer s H vs Q E hr h => ?_)
  · obtain ⟨I, v, S, t, a, L, rfl, _⟩ := h
    rfl
  · obtain ⟨I, v, S, t, a, L, rfl, X, ht, kB, kk⟩ := h
    obtain ⟨dx, hv⟩ := X.hv
    obtain ⟨ia, ⟨dl, pa, la, ga, hA, hPr, hla, hga⟩, okL⟩ := X.lo t a L ht
    obtain ⟨dp, sl, svs, hpa, hsl, hSS⟩ := id hPr
    refine ⟨_, (pss_cons (ps_set (i := 2) sc_vAnswer.nd rfl (Or.inl rfl) (pe_meth (pv 0) T.cVault.c T.vFound.m (ok_vFound T) (hr.mono (by decide)) T.vFound.b .nil pass0 (pa_cons (pv 1) pa_nil)))
      (pss_cons (ps_if (pt_val (pe_meth (pv 0) T.cVault.c T.vBlocked.m (ok_vBlocked T) (hr.mono (by decide)) T.vBlocked.b .nil pass0 (pa_cons (pv 1) pa_nil))) (pss_one (ps_busy rfl (takes_of rfl rfl rfl rfl) T rfl)) pss_nil)
      (pss_cons (ps_if (pt_cmpR op_lt (pe_fld (pv 2) rfl) (pe_callB call_len_seq rfl T.zlen (by decide +kernel) (pa_cons (pe_fld (pe_fld (pv 2) rfl) rfl) pa_nil)) (nomark _)) (pss_one (ps_busy rfl (takes_of rfl rfl rfl rfl) T rfl)) pss_nil)
      (pss_one (ps_ret (pe_op op_mod (pe_op op_sub (pe_ix ix_list (pe_fld (pv 0) rfl) (pe_ix ix_list (pe_fld (pv 2) rfl) pe_int (fun _ _ => rfl)) (fun _ _ => rfl)) (pe_fld (pv 2) rfl)) (pe_fld (pv 0) rfl))))))), ?_⟩
    refine ⟨_, rfl, v, dx, _, rfl, hv, vf_found, _, rfl, I, v, S, t, a, L, rfl, X, ht, ?_⟩
    refine ⟨_, rfl, v, dx, _, rfl, hv, vf_blocked, _, rfl, I, v, S, t, a, L, rfl, X, ht, fun b H1 s1 hb0 hb1 => ⟨b, rfl, ifb (fun hb => kB H1 s1) fun hb => ?_⟩⟩
    have hA1 := s1 _ _ hA
    have hv1 := s1 _ _ hv
    refine ⟨_, rfl, a, T.cLoan.C, dl, _, _, rfl, hA1, T.cLoan.c, nLd T, lf_d, _, rfl, a, T.cLoan.C, dl, _, _, rfl, hA1, T.cLoan.c, nLp T, lf_p, pa, T.cProgram.C, dp, _, _, rfl, s1 _ _ (X.sub _ _ hpa), T.cProgram.c, nPs T, pf_s, sl, _, rfl, .inl (SqL.of (s1 _ _ (X.sub _ _ hsl))), _, _, rfl, rfl, _, rfl, ifb (fun _ => kB H1 s1) fun _ => ?_⟩
    have l0 : 0 < L.pl.length := by rw [okL.ll]; exact okL.p.c1
    obtain ⟨p0, hp0⟩ : ∃ p0, L.pl[0]? = some p0 := ⟨_, List.getElem?_eq_getElem l0⟩
    have pl0 := okL.lt p0 (List.mem_of_getElem? hp0)
    refine ⟨_, rfl, v, T.cVault.C, dx, _, _, rfl, hv1, T.cVault.c, nVc T, vf_c, _, rfl, a, T.cLoan.C, dl, _, _, rfl, hA1, T.cLoan.c, nLl T, lf_l, la, _, 0, nV p0, rfl, rfl, SqL.of (s1 _ _ (X.sub _ _ hla)), atI_nat (j := 0) (by rw [List.getElem?_map, hp0]; rfl),
      S.ca, _, (p0 : Int), _, rfl, rfl, SqL.of (s1 _ _ X.hc), atM pl0, _, rfl, a, T.cLoan.C, dl, _, _, rfl, hA1, T.cLoan.c, nLb T, lf_b, _, _, rfl, rfl, _, rfl, v, T.cVault.C, dx, _, _, rfl, hv1, T.cVault.c, nVm T, vf_m, _, _, rfl, rfl, (by show (0 : Int) < S.m; have := X.m2; omega), ?_⟩
    exact kk _ _ s1
/-! ### Vault.recall -/
def spVRecall (CP CL CV CB : Addr) : Sp := fun vs H Q E => ∃ (I : Hp) (v : Addr) (S : VS) (t : Nat) (a : Addr) (L : Lon), vs = [.ref v, .int t] ∧ VSt CP CL CV I H v S ∧ S.ls[t]? = some (some (a, L)) ∧
  (∀ H', Same H H' → Later S t → E (.ref CB) none H') ∧
  ∀ (H' : Hp), Apart S t L → VSt CP CL CV I H' v ⟨S.m, S.ca, S.la, undS L S.M, S.ls.set t none⟩ → Fr (Mu S) H H' → Q (.int L.done) H'
abbrev N_vRecall : List Str := ["self", "ticket", "loan", "steps", "step"]
theorem sc_vRecall : FnScope N_vRecall ["self", "ticket"] (defScope sVRecall) := ⟨rfl, rfl, rfl, by decide +kernel, rfl, by decide +kernel, by decide +kernel⟩
theorem ok_vRecall (T : Top K mg) : FnOk P w K mg base (L2.CX P w) 6 T.vRecall.f T.vRecall.fd ["self", "ticket"] (spVRecall T.cProgram.C T.cLoan.C T.cVault.C T.xBusy.C) := by
  refine T.vRecall.F.okX sc_vRecall (fun vs H Q E h => ?_) (fun cdv A outer s H vs Q E hr h => ?_)
  · obtain ⟨I, v, S, t, a, L, rfl, _⟩ := h
    rfl
  · obtain ⟨I, v, S, t, a, L, rfl, X, ht, kB, kk⟩ := h
    obtain ⟨dx, hv⟩ := X.hv
    obtain ⟨ia, ⟨dl, pa, la, ga, hA, hPr, hla, hga⟩, okL⟩ := X.lo t a L ht
    obtain ⟨dp, sl, svs, hpa, hsl, hSS⟩ := id hPr
    obtain ⟨nca, nla⟩ := X.lo_ne ht
    have tl : t < S.ls.length := (List.getElem?_eq_some_iff.mp ht).1
    refine ⟨_, (pss_cons (ps_set (i := 2) sc_vRecall.nd rfl (Or.inl rfl) (pe_meth (pv 0) T.cVault.c T.vFound.m (ok_vFound T) (hr.mono (by decide)) T.vFound.b .nil pass0 (pa_cons (pv 1) pa_nil)))
      (pss_cons (ps_if (pt_val (pe_meth (pv 0) T.cVault.c T.vBlocked.m (ok_vBlocked T) (hr.mono (by decide)) T.vBlocked.b .nil pass0 (pa_cons (pv 1) pa_nil))) (pss_one (ps_busy rfl (takes_of rfl rfl rfl rfl) T rfl)) pss_nil)
      (PSs.nox (pss_cons (ps_set (i := 3) sc_vRecall.nd rfl (Or.inl rfl) (pe_slice sl_list (pe_fld (pe_fld (pv 2) rfl) rfl) po_none (po_some (pe_fld (pv 2) rfl))))
      (pss_cons (ps_for PassesOwn.never rfl (pi_list (pe_revL (pv 3))) (pg_name (i := 4) sc_vRecall.nd rfl (Or.inl rfl)) (pss_one (ps_expr (pe_meth (pv 0) T.cVault.c T.vPerform.m (ok_vPerform T) (hr.mono (by decide)) T.vPerform.b .nil pass0 (pa_cons (pv 2) (pa_cons (pe_call (ok_inverseStep T) (hr.mono (by decide)) rfl T.inverseStep.g T.inverseStep.kp T.inverseStep.b .nil pass0 (pa_cons (pv 4) (pa_cons (pe_fld (pv 0) rfl) pa_nil))) pa_nil))))))
      (pss_cons (ps_asg pe_non (pg_sub (pe_fld (pv 0) rfl) (pv 1) set_list))
      (pss_one (ps_ret (pe_callB call_len_seq rfl T.zlen (by decide +kernel) (pa_cons (pv 3) pa_nil)))))))))), ?_⟩
    refine ⟨_, rfl, v, dx, _, rfl, hv, vf_found, _, rfl, I, v, S, t, a, L, rfl, X, ht, ?_⟩
    refine ⟨_, rfl, v, dx, _, rfl, hv, vf_blocked, _, rfl, I, v, S, t, a, L, rfl, X, ht, fun b H1 s1 hb0 hb1 => ⟨b, rfl, ifb (fun hb => kB H1 s1 (hb1 hb)) fun hb => ?_⟩⟩
    have ap := hb0 hb
    have X1 := X.same s1
    have hA1 := s1 _ _ hA
    have hv1 := s1 _ _ hv
    -- steps = loan.program.steps[:loan.done]
    refine ⟨_, rfl, a, T.cLoan.C, dl, _, _, rfl, hA1, T.cLoan.c, nLp T, lf_p, pa, T.cProgram.C, dp, _, _, rfl, s1 _ _ (X.sub _ _ hpa), T.cProgram.c, nPs T, pf_s,
      _, rfl, a, T.cLoan.C, dl, _, _, rfl, hA1, T.cLoan.c, nLd T, lf_d, L.done, rfl, sl, svs, rfl, SqL.of (s1 _ _ (X.sub _ _ hsl)), fun q hq => ?_⟩
    rw [cut_to svs L.done]
    have s2 : Same H1 (upd H1 q (.lst (svs.take L.done))) := Same.new hq
    have hq2 : upd H1 q (.lst (svs.take L.done)) q = some (.lst (svs.take L.done)) := upd_same
    generalize upd H1 q (.lst (svs.take L.done)) = H2 at s2 hq2
    have s02 : Same H H2 := s1.trans s2
    refine ⟨_, rfl, q, _, rfl, SqL.of hq2, fun r hr' => ?_⟩
    have s3 : Same H2 (upd H2 r (.lst (svs.take L.done).reverse)) := Same.new hr'
    have hr3 : upd H2 r (.lst (svs.take L.done).reverse) r = some (.lst (svs.take L.done).reverse) := upd_same
    generalize upd H2 r (.lst (svs.take L.done).reverse) = H3 at s3 hr3
    have hPP : Paired (StpAt I) (svs.take L.done).reverse (L.P.ss.take L.done).reverse := pd_rev (pd_take L.done hSS)
    have okX : ∀ x ∈ (L.P.ss.take L.done).reverse, OkS L.P.m L.P.nc L.P.ni x := fun x hx => okL.p.ok x (List.mem_of_mem_take (List.mem_reverse.mp hx))
    have hqca : q ≠ S.ca := fun z => by rw [z, X1.hc] at hq; cases hq
    have hrca : r ≠ S.ca := fun z => by rw [z, (X1.same s2).hc] at hr'; cases hr'
    refine ⟨r, rfl, ⟨_, SqL.of hr3⟩, for_list (K := K) (a := r) (xs := (svs.take L.done).reverse) (fun i σ H' => ∃ v4, σ = [some (.ref v), some (.int t), some (.ref a), some (.ref q), v4] ∧
        VSt T.cProgram.C T.cLoan.C T.cVault.C I H' v ⟨S.m, S.ca, S.la, runS L ((((L.P.ss.take L.done).reverse).map (invS L.P.m)).take i) S.M, S.ls⟩ ∧ But S.ca H3 H') ⟨none, rfl, (X1.same s2).same s3, But.refl _ _⟩ (fun i σ H' _ ⟨_, _, _, b⟩ => SqL.of (b _ _ hrca hr3)) ?_ ?_⟩
    · rintro i y σ H4 hy ⟨v4, rfl, X4, b4⟩
      obtain ⟨x, hx, hS⟩ := pd_get hPP hy
      obtain ⟨dx4, hv4⟩ := X4.hv
      have ox := okX x (List.mem_of_getElem? hx)
      have ei : invS S.m x = invS L.P.m x := by rw [okL.pm]
      refine ⟨_, rfl, v, dx4, _, rfl, hv4, vf_perform, _, rfl, _, rfl, _, rfl, v, T.cVault.C, dx4, _, _, rfl, hv4, T.cVault.c, nVm T, vf_m, y, S.m, L.P.nc, L.P.ni, x, rfl, hS.mono X4.sub, (by rw [← okL.pm]; exact ox), X.m2, X.mm, fun y' H5 s5 hS5 => ?_⟩
      have X5 := X4.same s5
      have ox' : OkS L.P.m L.P.nc L.P.ni (invS L.P.m x) := invS_ok okL.p.m2 x ox
      refine ⟨I, v, _, t, a, L, y', invS L.P.m x, rfl, X5, ht, (by rw [← ei]; exact hS5), ox', fun H6 hc6 b6 => ⟨_, rfl, ?_, (b4.trans (But.of s5)).trans b6⟩⟩
      rw [runS_step (x := invS L.P.m x) (by rw [List.getElem?_map, hx]; rfl)]
      refine X5.setM hc6 b6 onS_len (onS_rng ?_ X5.rng ox')
      exact (X5.lo t a L ht).2.2
    · rintro σ H4 ⟨v4, rfl, X4, b4⟩
      have el : (svs.take L.done).reverse.length = ((L.P.ss.take L.done).reverse.map (invS L.P.m)).length := by rw [List.length_map]; exact pd_len hPP
      rw [el, List.take_length] at X4
      obtain ⟨dx4, hv4⟩ := X4.hv
      -- self.loans[ticket] = None
      refine ⟨_, rfl, v, T.cVault.C, dx4, _, _, rfl, hv4, T.cVault.c, nVl T, vf_l, _, rfl, S.la, _, t, t, rfl, rfl, X4.hl, ixn (by rw [List.length_map]; exact tl), ?_⟩
      have hq4 := b4 _ _ hqca (s3 _ _ hq2)
      have hqla : q ≠ S.la := fun z => by rw [z, X1.hl] at hq; cases hq
      refine ⟨_, rfl, q, _, rfl, .inl (SqL.of (by rw [upd_ne hqla]; exact hq4)), ?_⟩
      have hlen : (svs.take L.done).length = L.done := by
        rw [List.length_take, pd_len hSS]
        have := okL.dn
        omega
      rw [hlen]
      refine kk _ ap (X4.setN tl rfl) fun b o hb e => ?_
      have h1 : b ≠ S.ca := fun z => hb (.inl z)
      have h2 : b ≠ S.la := fun z => hb (.inr (.inl z))
      rw [upd_ne h2]
      exact b4 _ _ h1 (s3 _ _ (s02 _ _ e))
end
theorem nd_take {pl : List Nat} (hN : pl.Nodup) {i p : Nat} (h : pl[i]? = some p) : p ∉ pl.take i := fun hm => by
  obtain ⟨j, hj⟩ := List.getElem?_of_mem hm
  have hji : j < i := by
    have h1 := (List.getElem?_eq_some_iff.mp hj).1
    have h2 : (pl.take i).length ≤ i := List.length_take_le ..
    omega
  rw [List.getElem?_take_of_lt hji] at hj
  have := nd_ix hN hj h
  omega
section
variable {P : Program} {w : World} {K : PySem.W.Frag} {mg : Str → Option Value} {base : Heap}
/-! ### Vault.lend -/
def spVLend (CP CL CV : Addr) : Sp := fun vs H Q _ => ∃ (I : Hp) (v : Addr) (S : VS) (pa pl ga : Addr) (R : Prg) (ps : List Nat) (g : List Int), vs = [.ref v, .ref pa, .ref pl, .ref ga] ∧ VSt CP CL CV I H v S ∧ S.ls.length ≤ 100 ∧
  ProgAt CP I pa R ∧ OkP R ∧ R.m = S.m ∧ H pl = some (.lst (ps.map nV)) ∧ ps.length = R.nc ∧ ps.Nodup ∧ (∀ p ∈ ps, p < S.M.length) ∧ H ga = some (.lst (g.map V.int)) ∧ g.length = R.ni ∧ Rng S.m g ∧
  ∀ (H' I' : Hp) (x : Addr) (bg z : Int), Same I I' → (∀ b, H b ≠ none → I b = none → I' b = none) → H x = none → VSt CP CL CV I' H' v ⟨S.m, S.ca, S.la, S.M, S.ls ++ [some (x, ⟨R, ps, g, bg, 0⟩)]⟩ → Fr (Mu S) H H' → Q (.int z) H'
abbrev N_vLend : List Str := ["self", "program", "places", "given", "seen", "place", "loan"]
theorem sc_vLend : FnScope N_vLend ["self", "program", "places", "given"] (defScope sVLend) := ⟨rfl, rfl, rfl, by decide +kernel, rfl, by decide +kernel, by decide +kernel⟩
theorem ok_vLend (T : Top K mg) : FnOk P w K mg base CX0 4 T.vLend.f T.vLend.fd ["self", "program", "places", "given"] (spVLend T.cProgram.C T.cLoan.C T.cVault.C) := by
  refine T.vLend.F.ok sc_vLend (fun vs H Q E h => ?_) (fun cdv A outer s H vs Q E hr h => ?_)
  · obtain ⟨I, v, S, pa, pl, ga, R, ps, g, rfl, _⟩ := h
    rfl
  · obtain ⟨I, v, S, pa, pl, ga, R, ps, g, rfl, X, hsz, hPr, okR, hRm, hpl, lps, nd, lt, hga, lg, rg, kk⟩ := h
    obtain ⟨dx, hv⟩ := X.hv
    obtain ⟨dp, sl, svs, hpa, hsl, hSS⟩ := id hPr
    have hpa' := X.sub _ _ hpa
    refine ⟨_, (pss_cons (ps_if (pt_cmpR op_ne (pe_fld (pv 1) rfl) (pe_fld (pv 0) rfl) (nomark _)) (pss_one ps_never) pss_nil)
      (pss_cons (ps_if (PW.pt (pw_or (pt_not (pt_val (pe_callB call_isi rfl T.zisinstance (by decide +kernel) (pa_cons (pv 2) (pa_cons (pe_bltn (v := .ty "list") rfl T.zlist (by decide +kernel) rfl) pa_nil))))) (pw_or1 (pt_cmpR op_ne (pe_callB call_len_seq rfl T.zlen (by decide +kernel) (pa_cons (pv 2) pa_nil)) (pe_fld (pv 1) rfl) (nomark _))))) (pss_one ps_never) pss_nil)
      (pss_cons (ps_set (i := 4) sc_vLend.nd rfl (Or.inl rfl) (pe_lst pa_nil))
      (pss_cons (ps_for PassesOwn.never rfl (pi_list (pv 2)) (pg_name (i := 5) sc_vLend.nd rfl (Or.inl rfl)) (pss_cons (ps_if (PW.pt (pw_or (pt_not (pt_val (pe_call (ok_isNumber T) (hr.mono (by decide)) rfl T.isNumber.g T.isNumber.kp T.isNumber.b .nil pass0 (pa_cons (pv 5) (pa_cons (pe_callB call_len_seq rfl T.zlen (by decide +kernel) (pa_cons (pe_fld (pv 0) rfl) pa_nil)) pa_nil))))) (pw_or1 (pt_cmpR op_in_seq (pv 5) (pv 4) rfl)))) (pss_one ps_never) pss_nil)
          (pss_one (ps_expr (pe_bm PySem.F.plainAttrs_list PySem.F.slot_list_append PySem.F.type_list_append mt_append (pv 4) (pa_cons (pv 5) pa_nil))))))
      (pss_cons (ps_expr (pe_call (ok_checkNumbers T) (hr.mono (by decide)) rfl T.checkNumbers.g T.checkNumbers.kp T.checkNumbers.b .nil pass0 (pa_cons (pv 3) (pa_cons (pe_fld (pv 1) rfl) (pa_cons (pe_fld (pv 0) rfl) pa_nil)))))
      (pss_cons (ps_set (i := 6) sc_vLend.nd rfl (Or.inl rfl) (pe_make T.lInit.i (ok_lInit T) (hr.mono (by decide)) rfl T.cLoan.g T.lInit.b .nil pass0 (pa_cons (pv 1) (pa_cons (pv 4) (pa_cons (pe_callTy call_list_of rfl T.zlist (by decide +kernel) (pa_cons (pv 3) pa_nil)) (pa_cons (pe_ix ix_list (pe_fld (pv 0) rfl) (pe_ix ix_list (pv 4) pe_int (fun _ _ => rfl)) (fun _ _ => rfl)) pa_nil))))))
      (pss_cons (ps_expr (pe_bm PySem.F.plainAttrs_list PySem.F.slot_list_append PySem.F.type_list_append mt_append (pe_fld (pv 0) rfl) (pa_cons (pv 6) pa_nil)))
      (pss_one (ps_ret (pe_op op_sub (pe_callB call_len_seq rfl T.zlen (by decide +kernel) (pa_cons (pe_fld (pv 0) rfl) pa_nil)) pe_int)))))))))), ?_⟩
    refine ⟨_, rfl, pa, T.cProgram.C, dp, _, _, rfl, hpa', T.cProgram.c, nPm T, pf_m, _, rfl, v, T.cVault.C, dx, _, _, rfl, hv, T.cVault.c, nVm T, vf_m, rfl, _, rfl, ifF (nT (decT (by rw [hRm]))) ?_⟩
    refine ⟨_, rfl, _, _, _, _, true, rfl, .ty "list", .base (.lst hpl), kit_ty (by decide +kernel), true, rfl, iteF ?_⟩
    refine ⟨_, rfl, pl, _, rfl, .inl (SqL.of hpl), _, rfl, pa, T.cProgram.C, dp, _, _, rfl, hpa', T.cProgram.c, nPc T, pf_c, rfl, _, rfl, ifF (nT (decT (by rw [List.length_map, lps]))) ?_⟩
    -- seen = []
    refine ⟨by show 0 ≤ sizeLine; decide, fun q1 hq1 => ?_⟩
    refine ⟨_, rfl, pl, rfl, ⟨_, SqL.of (Same.new hq1 _ _ hpl)⟩, for_list (K := K) (a := pl) (xs := ps.map nV) (fun i σ H' => ∃ v5, σ = [some (.ref v), some (.ref pa), some (.ref pl), some (.ref ga), some (.ref q1), v5, none] ∧ Same H H' ∧ H' q1 = some (.lst ((ps.take i).map nV)))
      ⟨none, rfl, Same.new hq1, upd_same⟩ (fun i σ H' _ ⟨_, _, s1, _⟩ => SqL.of (s1 _ _ hpl)) ?_ ?_⟩
    · rintro i y σ H1 hy ⟨v5, rfl, s1, h1⟩
      obtain ⟨p, hp, rfl⟩ := getN hy
      have pM := lt p (List.mem_of_getElem? hp)
      refine ⟨_, rfl, _, rfl, v, T.cVault.C, dx, _, _, rfl, s1 _ _ hv, T.cVault.c, nVc T, vf_c, S.ca, _, rfl, .inl (SqL.of (s1 _ _ X.hc)), p, _, rfl, by omega, by rw [List.length_map]; omega, _, rfl, iteF ?_⟩
      refine ⟨_, rfl, _, rfl, q1, _, rfl, .inl (SqL.of h1), flat_one p, flat_nV _, _, rfl, ifF ?_ ?_⟩
      · show inV (nV p) ((ps.take i).map nV) = false
        rw [inV_nV]
        exact decide_eq_false (nd_take nd hp)
      · refine ⟨_, rfl, .inl ⟨rfl, _, SqL.of h1⟩, _, rfl, q1, _, _, rfl, rfl, h1, ?_, some (nV p), rfl, s1.rewr hq1, ?_⟩
        · rw [List.length_map]
          have e1 : (ps.take i).length ≤ ps.length := List.length_take_le' ..
          have e2 := okR.c2
          exact Nat.lt_of_le_of_lt (show (ps.take i).length ≤ 60 by omega) (by decide)
        · rw [upd_same, takeS hp]
    · rintro σ H1 ⟨v5, rfl, s1, h1⟩
      rw [List.length_map, List.take_length] at h1
      have l0 : 0 < ps.length := by rw [lps]; exact okR.c1
      obtain ⟨p0, hp0⟩ : ∃ p0, ps[0]? = some p0 := ⟨_, List.getElem?_eq_getElem l0⟩
      have pl0 := lt p0 (List.mem_of_getElem? hp0)
      -- check_numbers(given, program.inputs, self.modulus)
      refine ⟨_, rfl, _, rfl, pa, T.cProgram.C, dp, _, _, rfl, s1 _ _ hpa', T.cProgram.c, nPi T, pf_i, _, rfl, v, T.cVault.C, dx, _, _, rfl, s1 _ _ hv, T.cVault.c, nVm T, vf_m, ga, S.m, g, (by rw [lg]; rfl), s1 _ _ hga, rg, ?_⟩
      -- loan = Loan(program, seen, list(given), self.cells[seen[0]])
      refine ⟨_, rfl, _, rfl, _, rfl, ga, _, rfl, .inl (SqL.of (s1 _ _ hga)), fun q2 hq2 => ?_⟩
      have s2 : Same H1 (upd H1 q2 (.lst (g.map V.int))) := Same.new hq2
      have h2 : upd H1 q2 (.lst (g.map V.int)) q2 = some (.lst (g.map V.int)) := upd_same
      generalize upd H1 q2 (.lst (g.map V.int)) = H2 at s2 h2
      have s02 : Same H H2 := s1.trans s2
      have h1' := s2 _ _ h1
      refine ⟨_, rfl, v, T.cVault.C, dx, _, _, rfl, s02 _ _ hv, T.cVault.c, nVc T, vf_c, _, rfl, q1, _, 0, nV p0, rfl, rfl, SqL.of h1', atI_nat (j := 0) (by rw [List.getElem?_map, hp0]; rfl), S.ca, _, (p0 : Int), _, rfl, rfl, SqL.of (s02 _ _ X.hc), atM pl0, fun x dl hx hdl ned => ?_⟩
      refine ⟨x, dl, pa, q1, q2, S.M.getD p0 0, rfl, upd_same, fun H5 hx5 b5 => ⟨rfl, ?_⟩⟩
      have s25 : Same H2 H5 := fun b o e => b5 _ _ (ne_of_none e hx) (by rw [upd_ne (ne_of_none e hx), upd_ne (ne_of_none e hdl)]; exact e)
      have s05 : Same H H5 := s02.trans s25
      have hl5 := s05 _ _ X.hl
      have hxH : H x = none := s02.free hx
      have hq2H : H q2 = none := s1.free hq2
      have xla : x ≠ S.la := fun z => by rw [z, X.hl] at hxH; cases hxH
      have q1la : q1 ≠ S.la := fun z => by rw [z, X.hl] at hq1; cases hq1
      have q2la : q2 ≠ S.la := fun z => by rw [z, X.hl] at hq2H; cases hq2H
      have q12 : q1 ≠ q2 := ne_of_none h1 hq2
      have xq1 : x ≠ q1 := fun z => by rw [z, h1'] at hx; cases hx
      have xq2 : x ≠ q2 := fun z => by rw [z, h2] at hx; cases hx
      have vla : v ≠ S.la := ne_of hv X.hl (by intro z; cases z)
      -- self.loans.append(loan)
      refine ⟨_, rfl, v, T.cVault.C, dx, _, _, rfl, s05 _ _ hv, T.cVault.c, nVl T, vf_l, .inl ⟨rfl, _, SqL.of hl5⟩, _, rfl, S.la, _, _, rfl, rfl, hl5, ?_, ?_⟩
      · rw [List.length_map]
        exact Nat.lt_of_le_of_lt hsz (by decide)
      refine ⟨_, rfl, v, T.cVault.C, dx, _, _, rfl, (by rw [upd_ne vla]; exact s05 _ _ hv), T.cVault.c, nVl T, vf_l, S.la, _, rfl, .inl (SqL.of upd_same), _, _, rfl, rfl, ?_⟩
      have free : ∀ b, H b = none → I b = none := fun b hb => X.sub.free hb
      have sI : Same I (upd (upd I q1 (.lst (ps.map nV))) q2 (.lst (g.map V.int))) := (Same.new (free _ hq1)).newer (by rw [upd_ne q12.symm]; exact free _ hq2H)
      refine kk _ (upd (upd I q1 (.lst (ps.map nV))) q2 (.lst (g.map V.int))) x (S.M.getD p0 0) _ sI (fun b hb hi => ?_) hxH ?_ ?_
      · rw [upd_ne fun z => by rw [z] at hb; exact hb hq2H, upd_ne fun z => by rw [z] at hb; exact hb hq1]
        exact hi
      · refine X.add sI ?_ ?_ upd_same ?_ hxH ?_ ?_ ?_
        · intro b o e
          by_cases c2 : b = q2
          · subst c2
            rw [upd_same] at e
            cases e
            rw [upd_ne q2la]
            exact s25 _ _ h2
          · rw [upd_ne c2] at e
            by_cases c1 : b = q1
            · subst c1
              rw [upd_same] at e
              cases e
              rw [upd_ne q1la]
              exact s25 _ _ h1'
            · rw [upd_ne c1] at e
              rw [upd_ne fun z => by rw [z, X.nl] at e; cases e]
              exact s05 _ _ (X.sub _ _ e)
        · intro b hb hi
          rw [upd_ne fun z => by rw [z] at hb; exact hb hq2H, upd_ne fun z => by rw [z] at hb; exact hb hq1]
          exact hi
        · exact But.upd (But.of s05)
        · rw [upd_ne xq2, upd_ne xq1]
          exact free _ hxH
        · refine ⟨dl, pa, q1, q2, ?_, hPr.mono sI, ?_, upd_same⟩
          · rw [upd_ne xla]
            exact hx5
          · rw [upd_ne q12, upd_same]
        · exact ⟨okR, hRm, lps, nd, lt, lg, Nat.zero_le _⟩
      · intro b o hb e
        rw [upd_ne fun z => hb (.inr (.inl z))]
        exact s05 _ _ e
end
/-! ### the primes of the law -/
def noDiv (p : Nat) : Nat → Nat → Bool
  | 0, _ => true
  | f + 1, k => (p % k != 0) && noDiv p f (k + 1)
theorem noDiv_at {p : Nat} : ∀ {f k j : Nat}, noDiv p f k = true → k ≤ j → j < k + f → p % j ≠ 0
  | 0, k, j, _, h1, h2 => by omega
  | f + 1, k, j, h, h1, h2 => by
    have h' : (p % k != 0) = true ∧ noDiv p f (k + 1) = true := by
      have q : ((p % k != 0) && noDiv p f (k + 1)) = true := h
      simpa using q
    by_cases c : j = k
    · subst c
      simpa using h'.1
    · exact noDiv_at h'.2 (by omega) (by omega)
theorem noDiv_big : noDiv 999999937 31700 2 = true := by decide +kernel
theorem pr_big : Pr 999999937 := by
  refine ⟨by decide, fun k h2 hk h0 => ?_⟩
  have hk' : k < 999999937 := by omega
  have h0' : 999999937 % k = 0 := by
    have e : ((999999937 % k : Nat) : Int) = (999999937 : Int) % (k : Int) := by rw [Int.natCast_emod]; rfl
    omega
  by_cases c : k < 31702
  · exact noDiv_at noDiv_big h2 (by omega) h0'
  · obtain ⟨q, hq⟩ := Nat.dvd_of_mod_eq_zero h0'
    have q2 : 2 ≤ q := by
      rcases Nat.lt_or_ge q 2 with z | z
      · have : q = 0 ∨ q = 1 := by omega
        rcases this with rfl | rfl <;> omega
      · exact z
    have q3 : q < 31702 := by
      rcases Nat.lt_or_ge q 31702 with z | z
      · exact z
      · have : 31702 * 31702 ≤ k * q := Nat.mul_le_mul (by omega) z
        omega
    exact noDiv_at noDiv_big q2 (by omega) (Nat.mod_eq_zero_of_dvd ⟨k, by rw [Nat.mul_comm]; exact hq⟩)
/-! ### the draws -/
structure DS where
  d : Addr
  dl : Addr
  ns : List Int
structure Dr (D : DS) (H : Hp) : Prop where
  at_ : ∃ k : Nat, H D.d = some (.lst [.ref D.dl, .int k])
  ls : H D.dl = some (.lst (D.ns.map V.int))
  ok : ∀ n ∈ D.ns, 0 ≤ n ∧ n < 1000000
theorem Dr.ne {D : DS} {H : Hp} (h : Dr D H) : D.dl ≠ D.d := fun e => by
  obtain ⟨k, h1⟩ := h.at_
  have h2 := h.ls
  rw [e, h1] at h2
  injection h2 with h2
  injection h2 with h2
  cases e0 : D.ns with
  | nil => rw [e0] at h2; cases h2
  | cons a r => rw [e0] at h2; cases h2
theorem Dr.some_ {D : DS} {H : Hp} (h : Dr D H) : ∃ o, H D.d = some o := by
  obtain ⟨k, h1⟩ := h.at_
  exact ⟨_, h1⟩
theorem Dr.same {D : DS} {H H' : Hp} (h : Dr D H) (s : Same H H') : Dr D H' := by
  obtain ⟨k, h1⟩ := h.at_
  exact ⟨⟨k, s _ _ h1⟩, s _ _ h.ls, h.ok⟩
/-- the draws go on: all else stays -/
structure Go (D : DS) (H H' : Hp) : Prop where
  dr : Dr D H'
  but : But D.d H H'
theorem Go.refl {D : DS} {H : Hp} (h : Dr D H) : Go D H H := ⟨h, But.refl _ _⟩
theorem Go.trans {D : DS} {H H1 H2 : Hp} (a : Go D H H1) (b : Go D H1 H2) : Go D H H2 := ⟨b.dr, a.but.trans b.but⟩
theorem Go.new {D : DS} {H H1 : Hp} (a : Go D H H1) {p : Addr} {o : HO} (hp : H1 p = none) : Go D H (upd H1 p o) :=
  ⟨a.dr.same (Same.new hp), fun b u n e => Same.new hp _ _ (a.but b u n e)⟩
/-- a new object of ours rewritten -/
theorem Go.rewr {D : DS} {H H1 : Hp} (a : Go D H H1) (hD : Dr D H) {p : Addr} {o : HO} (hp : H p = none) : Go D H (upd H1 p o) := by
  obtain ⟨o1, e1⟩ := hD.some_
  have n1 : D.d ≠ p := ne_of_none e1 hp
  have n2 : D.dl ≠ p := ne_of_none hD.ls hp
  obtain ⟨k, q1⟩ := a.dr.at_
  exact ⟨⟨⟨k, by rw [upd_ne n1]; exact q1⟩, by rw [upd_ne n2]; exact a.dr.ls, a.dr.ok⟩, fun b u n e => by rw [upd_ne (ne_of_none e hp)]; exact a.but b u n e⟩
/-- what is new was not there -/
theorem Go.free {D : DS} {H H1 : Hp} (a : Go D H H1) {p : Addr} (h : H1 p = none) : H p = none := by
  cases q : H p with
  | none => rfl
  | some o =>
    by_cases c : p = D.d
    · obtain ⟨k, e⟩ := a.dr.at_
      rw [c, e] at h
      cases h
    · rw [a.but p o c q] at h
      cases h
theorem Go.keep {D : DS} {H H1 : Hp} (a : Go D H H1) (hD : Dr D H) {p : Addr} {o : HO} (h : H p = some o) (hn : p ≠ D.d) : H1 p = some o := a.but p o hn h
/-- what has come to the heap H since H0 -/
def Nw (H0 H : Hp) : Hp := fun b => match H0 b with | none => H b | some _ => none
theorem Nw.of {H0 H : Hp} {b : Addr} (h : H0 b = none) : Nw H0 H b = H b := by unfold Nw; rw [h]
theorem Nw.same {H0 H : Hp} : Same (Nw H0 H) H := fun b o e => by
  unfold Nw at e
  cases q : H0 b with
  | none => rw [q] at e; exact e
  | some u => rw [q] at e; cases e
theorem Nw.mono {H0 H H' : Hp} (k : ∀ b o, H0 b = none → H b = some o → H' b = some o) : Same (Nw H0 H) (Nw H0 H') := fun b o e => by
  unfold Nw at e ⊢
  cases q : H0 b with
  | none => rw [q] at e; exact k b o q e
  | some u => rw [q] at e; cases e
theorem Nw.lift {H0 H1 H : Hp} (g : ∀ b, H1 b = none → H0 b = none) : Same (Nw H1 H) (Nw H0 H) := fun b o e => by
  unfold Nw at e ⊢
  cases q : H1 b with
  | none => rw [q] at e; rw [g b q]; exact e
  | some u => rw [q] at e; cases e
/-- a later stretch of draws keeps what came before -/
theorem Nw.go {D : DS} {H0 H H' : Hp} (hD : Dr D H0) (a : Go D H H') : Same (Nw H0 H) (Nw H0 H') := Nw.mono fun b o h0 e => by
  obtain ⟨u, hu⟩ := hD.some_
  exact a.but b o (fun z => by rw [z, hu] at h0; cases h0) e
section
variable {P : Program} {w : World} {K : PySem.W.Frag} {mg : Str → Option Value} {base : Heap}
/-! ### the law's numbers -/
def spLMixed : Sp := fun vs H Q _ => ∃ n k : Int, vs = [.int n, .int k] ∧ ∀ r : Int, 0 ≤ r → r < 2147483647 → Q (.int r) H
abbrev N_LMixed : List Str := ["_law_number_here", "_law_k", "_law_step_here"]
theorem sc_LMixed : FnScope N_LMixed ["_law_number_here", "_law_k"] (defScope sLMixed) := ⟨rfl, rfl, rfl, by decide +kernel, rfl, by decide +kernel, by decide +kernel⟩
theorem ok_LMixed (T : Top K mg) : FnOk P w K mg base CX0 1 T.LMixed.f T.LMixed.fd ["_law_number_here", "_law_k"] spLMixed := by
  refine T.LMixed.F.ok sc_LMixed (fun vs H Q E h => ?_) (fun cdv A outer s H vs Q E hr h => ?_)
  · obtain ⟨n, k, rfl, _⟩ := h
    rfl
  · obtain ⟨n, k, rfl, kk⟩ := h
    refine ⟨_, (pss_cons (ps_set (i := 2) sc_LMixed.nd rfl (Or.inl rfl) (pe_op op_mod (pe_op op_add (pe_op op_add (pe_op op_mul (pv 0) pe_int) (pe_op op_mul (pv 1) pe_int)) pe_int) pe_int))
      (pss_one (ps_ret (pe_op op_mod (pe_op op_add (pe_op op_mul (pv 2) (pe_op op_add (pe_op op_fdiv (pv 2) pe_int) pe_int)) (pv 1)) pe_int)))), ?_⟩
    refine ⟨_, rfl, n, 48271, rfl, rfl, .inr (by omega), _, rfl, k, 69621, rfl, rfl, .inr (by omega), _, _, rfl, rfl, _, 12345, rfl, rfl, _, 2147483647, rfl, rfl, (by show (0 : Int) < 2147483647; decide), ?_⟩
    have z0 : 0 ≤ (n * 48271 + k * 69621 + 12345) % 2147483647 := Int.emod_nonneg _ (by decide)
    have z1 : (n * 48271 + k * 69621 + 12345) % 2147483647 < 2147483647 := Int.emod_lt_of_pos _ (by decide)
    refine ⟨_, rfl, _, rfl, _, 65536, rfl, rfl, (by show (0 : Int) < 65536 ∧ (65536 : Int) < 1073741824; decide), _, 3, rfl, rfl, _, _, rfl, rfl, .inl ⟨by show -(2 ^ 64) < (n * 48271 + k * 69621 + 12345) % 2147483647; omega, by show (n * 48271 + k * 69621 + 12345) % 2147483647 < 2 ^ 64; omega⟩, _, rfl, _, k, rfl, rfl, _, 2147483647, rfl, rfl, (by show (0 : Int) < 2147483647; decide), ?_⟩
    exact kk _ (Int.emod_nonneg _ (by decide)) (Int.emod_lt_of_pos _ (by decide))
def spLNumbers (K : PySem.W.Frag) : Sp := fun vs H Q _ => ∃ (a : Addr) (ns : List Int), vs = [.ref a] ∧ SqL K H a (ns.map V.int) ∧ ns.length ≤ 63 ∧
  ∀ (p : Addr) (ms : List Int) (H' : Hp), H p = none → Same H H' → H' p = some (.lst (ms.map V.int)) → (∀ x ∈ ms, 0 ≤ x ∧ x < 1000000) → Q (.ref p) H'
theorem rng_app {ms : List Int} {z : Int} (h : ∀ x ∈ ms, 0 ≤ x ∧ x < 1000000) : ∀ x ∈ ms ++ [z % 1000000], 0 ≤ x ∧ x < 1000000 := fun x hx => by
  rcases List.mem_append.mp hx with q | q
  · exact h x q
  · rw [List.mem_singleton.mp q]
    exact ⟨Int.emod_nonneg _ (by decide), Int.emod_lt_of_pos _ (by decide)⟩
theorem small_line {n : Nat} (h : n ≤ 10000) : n < sizeLine := Nat.lt_of_le_of_lt h (by decide)
abbrev N_LNumbers : List Str := ["_law_script", "_law_numbers_here", "_law_cell", "_law_rest", "_law_k"]
theorem sc_LNumbers : FnScope N_LNumbers ["_law_script"] (defScope sLNumbers) := ⟨rfl, rfl, rfl, by decide +kernel, rfl, by decide +kernel, by decide +kernel⟩
theorem ok_LNumbers (T : Top K mg) : FnOk P w K mg base CX0 2 T.LNumbers.f T.LNumbers.fd ["_law_script"] (spLNumbers K) := by
  refine T.LNumbers.F.ok sc_LNumbers (fun vs H Q E h => ?_) (fun cdv A outer s H vs Q E hr h => ?_)
  · obtain ⟨a, ns, rfl, _⟩ := h
    rfl
  · obtain ⟨a, ns, rfl, hS, hlen, kk⟩ := h
    refine ⟨_, (pss_cons (ps_set (i := 1) sc_LNumbers.nd rfl (Or.inl rfl) (pe_lst pa_nil))
      (pss_cons (ps_for PassesOwn.never rfl (pi_list (pv 0)) (pg_name (i := 2) sc_LNumbers.nd rfl (Or.inl rfl)) (pss_one (ps_if (pt_cmpR op_ge (pv 2) (pe_op op_pow pe_int pe_int) (nomark _)) (pss_cons (ps_set (i := 3) sc_LNumbers.nd rfl (Or.inl rfl) (pv 2))
              (pss_one (ps_for PassesOwn.never rfl (pi_range1 rfl T.zrange (pa_cons pe_int pa_nil)) (pg_name (i := 4) sc_LNumbers.nd rfl (Or.inl rfl)) (pss_one (ps_if (pt_cmpR op_gt (pv 3) pe_int (nomark _)) (pss_cons (ps_expr (pe_bm PySem.F.plainAttrs_list PySem.F.slot_list_append PySem.F.type_list_append mt_append (pv 1) (pa_cons (pe_op op_mod (pv 3) pe_int) pa_nil)))
                      (pss_one (ps_set (i := 3) sc_LNumbers.nd rfl (Or.inl rfl) (pe_op op_fdiv (pv 3) pe_int)))) pss_nil))))) (pss_cons (ps_expr (pe_bm PySem.F.plainAttrs_list PySem.F.slot_list_append PySem.F.type_list_append mt_append (pv 1) (pa_cons (pe_op op_mod (pv 2) pe_int) pa_nil)))
              (pss_one (ps_for PassesOwn.never rfl (pi_range1 rfl T.zrange (pa_cons pe_int pa_nil)) (pg_name (i := 4) sc_LNumbers.nd rfl (Or.inl rfl)) (pss_one (ps_expr (pe_bm PySem.F.plainAttrs_list PySem.F.slot_list_append PySem.F.type_list_append mt_append (pv 1) (pa_cons (pe_op op_mod (pe_call (ok_LMixed T) (hr.mono (by decide)) rfl T.LMixed.g T.LMixed.kp T.LMixed.b .nil pass0 (pa_cons (pe_call (ok_LMixed T) (hr.mono (by decide)) rfl T.LMixed.g T.LMixed.kp T.LMixed.b .nil pass0 (pa_cons (pe_op op_mod (pv 2) pe_int) (pa_cons (pv 4) pa_nil))) (pa_cons (pe_op op_add (pv 4) pe_int) pa_nil))) pe_int) pa_nil))))))))))
      (pss_one (ps_ret (pv 1))))), ?_⟩
    refine ⟨by show 0 ≤ sizeLine; decide, fun q hq => ?_⟩
    refine ⟨_, rfl, a, rfl, ⟨_, (Same.new hq).seq hS⟩, for_list (K := K) (a := a) (xs := ns.map V.int) (fun i σ H' => ∃ (v2 v3 v4 : Option V) (ms : List Int), σ = [some (.ref a), some (.ref q), v2, v3, v4] ∧ Same H H' ∧ H' q = some (.lst (ms.map V.int)) ∧ ms.length ≤ 60 * i ∧ ∀ x ∈ ms, 0 ≤ x ∧ x < 1000000)
      ⟨none, none, none, [], rfl, Same.new hq, upd_same, Nat.zero_le _, fun _ hh => nomatch hh⟩ (fun i σ H' _ ⟨_, _, _, _, _, s1, _⟩ => s1.seq hS) ?_ ?_⟩
    · rintro i y σ H1 hy ⟨v2, v3, v4, ms, rfl, s1, h1, l1, r1⟩
      obtain ⟨c, hc, rfl⟩ := getI hy
      have hi : i < 63 := Nat.lt_of_lt_of_le (List.getElem?_eq_some_iff.mp hc).1 hlen
      refine ⟨_, rfl, 10, 18, rfl, rfl, (by show (0 : Int) ≤ 18 ∧ (18 : Int) ≤ 1000000 ∧ (10 : Int).natAbs < 2 ^ 64; decide), c, _, rfl, rfl, _, rfl, ifb (fun _ => ?_) fun _ => ?_⟩
      · refine ⟨_, rfl, 60, rfl, by decide, by decide, for_range (lo := 0) (n := 60) (fun j σ H' => ∃ (rs : Int) (v4 : Option V) (ms : List Int), σ = [some (.ref a), some (.ref q), some (.int c), some (.int rs), v4] ∧ Same H H' ∧ H' q = some (.lst (ms.map V.int)) ∧ ms.length ≤ 60 * i + j ∧ ∀ x ∈ ms, 0 ≤ x ∧ x < 1000000)
          ⟨c, v4, ms, rfl, s1, h1, l1, r1⟩ ?_ ?_⟩
        · rintro j σ H2 hj ⟨rs, v4, ms, rfl, s2, h2, l2, r2⟩
          refine ⟨_, rfl, rs, 0, rfl, rfl, _, rfl, ifb (fun _ => ?_) fun _ => ⟨rs, _, ms, rfl, s2, h2, by omega, r2⟩⟩
          refine ⟨_, rfl, .inl ⟨rfl, _, SqL.of h2⟩, _, rfl, rs, 1000000, rfl, rfl, (by show (0 : Int) < 1000000; decide), q, _, _, rfl, rfl, h2, small_line (by rw [List.length_map]; omega), ?_⟩
          refine ⟨_, rfl, rs, 1000000, rfl, rfl, (by show (0 : Int) < 1000000 ∧ (1000000 : Int) < 1073741824; decide), rs / 1000000, some (.int (0 + (j : Int))), ms ++ [rs % 1000000], rfl, s2.rewr hq, ?_, ?_, rng_app r2⟩
          · rw [upd_same, List.map_append]
            rfl
          · rw [List.length_append]
            show ms.length + 1 ≤ _
            omega
        · rintro σ H2 ⟨rs, v4, ms, rfl, s2, h2, l2, r2⟩
          exact ⟨_, _, _, ms, rfl, s2, h2, by omega, r2⟩
      · refine ⟨_, rfl, .inl ⟨rfl, _, SqL.of h1⟩, _, rfl, c, 1000000, rfl, rfl, (by show (0 : Int) < 1000000; decide), q, _, _, rfl, rfl, h1, small_line (by rw [List.length_map]; omega), ?_⟩
        refine ⟨5, rfl, by decide, by decide, for_range (lo := 0) (n := 5) (fun j σ H' => ∃ (v3 v4 : Option V) (ms : List Int), σ = [some (.ref a), some (.ref q), some (.int c), v3, v4] ∧ Same H H' ∧ H' q = some (.lst (ms.map V.int)) ∧ ms.length ≤ 60 * i + 1 + j ∧ ∀ x ∈ ms, 0 ≤ x ∧ x < 1000000)
          ⟨v3, v4, ms ++ [c % 1000000], rfl, s1.rewr hq, by rw [upd_same, List.map_append]; rfl, by rw [List.length_append]; show ms.length + 1 ≤ _; omega, rng_app r1⟩ ?_ ?_⟩
        · rintro j σ H2 hj ⟨v3, v4, ms, rfl, s2, h2, l2, r2⟩
          refine ⟨_, rfl, .inl ⟨rfl, _, SqL.of h2⟩, _, rfl, c, 2147483647, rfl, rfl, (by show (0 : Int) < 2147483647; decide), _, rfl, _, _, rfl, fun r _ _ => ?_⟩
          refine ⟨_, rfl, _, 7, rfl, rfl, _, _, rfl, fun r' _ _ => ?_⟩
          refine ⟨_, 1000000, rfl, rfl, (by show (0 : Int) < 1000000; decide), q, _, _, rfl, rfl, h2, small_line (by rw [List.length_map]; omega), v3, some (.int (0 + (j : Int))), ms ++ [r' % 1000000], rfl, s2.rewr hq, ?_, ?_, rng_app r2⟩
          · rw [upd_same, List.map_append]
            rfl
          · rw [List.length_append]
            show ms.length + 1 ≤ _
            omega
        · rintro σ H2 ⟨v3, v4, ms, rfl, s2, h2, l2, r2⟩
          exact ⟨_, _, _, ms, rfl, s2, h2, by omega, r2⟩
    · rintro σ H1 ⟨v2, v3, v4, ms, rfl, s1, h1, l1, r1⟩
      exact ⟨_, rfl, kk q ms H1 hq s1 h1 r1⟩
def spLDraw : Sp := fun vs H Q _ => ∃ D : DS, vs = [.ref D.d] ∧ Dr D H ∧ ∀ (r : Int) (H' : Hp), 0 ≤ r → r < 1000000 → Go D H H' → Q (.int r) H'
abbrev N_LDraw : List Str := ["_law_draws", "_law_at", "_law_first"]
theorem sc_LDraw : FnScope N_LDraw ["_law_draws"] (defScope sLDraw) := ⟨rfl, rfl, rfl, by decide +kernel, rfl, by decide +kernel, by decide +kernel⟩
theorem ok_LDraw (T : Top K mg) : FnOk P w K mg base CX0 2 T.LDraw.f T.LDraw.fd ["_law_draws"] spLDraw := by
  refine T.LDraw.F.ok sc_LDraw (fun vs H Q E h => ?_) (fun cdv A outer s H vs Q E hr h => ?_)
  · obtain ⟨D, rfl, _⟩ := h
    rfl
  · obtain ⟨D, rfl, hD, kk⟩ := h
    obtain ⟨k, hk⟩ := hD.at_
    have hne := hD.ne
    refine ⟨_, (pss_cons (ps_set (i := 1) sc_LDraw.nd rfl (Or.inl rfl) (pe_ix ix_list (pv 0) pe_int (fun _ _ => rfl)))
      (pss_cons (ps_asg (pe_op op_add (pv 1) pe_int) (pg_sub (pv 0) pe_int set_list))
      (pss_cons (ps_if (pt_cmpR op_lt (pv 1) (pe_callB call_len_seq rfl T.zlen (by decide +kernel) (pa_cons (pe_ix ix_list (pv 0) pe_int (fun _ _ => rfl)) pa_nil)) (nomark _)) (pss_one (ps_ret (pe_ix ix_list (pe_ix ix_list (pv 0) pe_int (fun _ _ => rfl)) (pv 1) (fun _ _ => rfl)))) pss_nil)
      (pss_cons (ps_set (i := 2) sc_LDraw.nd rfl (Or.inl rfl) (pe_op op_add pe_int (pv 1)))
      (pss_cons (ps_if (pt_cmpR op_gt (pe_callB call_len_seq rfl T.zlen (by decide +kernel) (pa_cons (pe_ix ix_list (pv 0) pe_int (fun _ _ => rfl)) pa_nil)) pe_int (nomark _)) (pss_one (ps_set (i := 2) sc_LDraw.nd rfl (Or.inl rfl) (pe_op op_add (pv 2) (pe_op op_mul pe_int (pe_ix ix_list (pe_ix ix_list (pv 0) pe_int (fun _ _ => rfl)) pe_int (fun _ _ => rfl)))))) pss_nil)
      (pss_one (ps_ret (pe_op op_mod (pe_call (ok_LMixed T) (hr.mono (by decide)) rfl T.LMixed.g T.LMixed.kp T.LMixed.b .nil pass0 (pa_cons (pe_call (ok_LMixed T) (hr.mono (by decide)) rfl T.LMixed.g T.LMixed.kp T.LMixed.b .nil pass0 (pa_cons (pv 2) (pa_cons (pv 1) pa_nil))) (pa_cons pe_int pa_nil))) pe_int)))))))), ?_⟩
    refine ⟨_, rfl, D.d, _, 1, .int k, rfl, rfl, SqL.of hk, atI_nat (j := 1) rfl, ?_⟩
    refine ⟨_, rfl, k, 1, rfl, rfl, _, rfl, D.d, _, 1, 1, rfl, rfl, hk, rfl, ?_⟩
    have g : Go D H (upd H D.d (.lst [.ref D.dl, .int ((k : Int) + 1)])) := by
      refine ⟨⟨⟨k + 1, upd_same⟩, by rw [upd_ne hne]; exact hD.ls, hD.ok⟩, fun b o n e => by rw [upd_ne n]; exact e⟩
    have hd1 : (upd H D.d (.lst ([V.ref D.dl, V.int k].set 1 (.int ((k : Int) + 1))))) D.d = some (.lst [.ref D.dl, .int ((k : Int) + 1)]) := upd_same
    have hl1 : (upd H D.d (.lst ([V.ref D.dl, V.int k].set 1 (.int ((k : Int) + 1))))) D.dl = some (.lst (D.ns.map V.int)) := g.dr.ls
    have g' : Go D H (upd H D.d (.lst ([V.ref D.dl, V.int k].set 1 (.int ((k : Int) + 1))))) := g
    generalize upd H D.d (.lst ([V.ref D.dl, V.int k].set 1 (.int ((k : Int) + 1)))) = H1 at hd1 hl1 g'
    refine ⟨_, rfl, _, rfl, D.d, _, 0, .ref D.dl, rfl, rfl, SqL.of hd1, atI_nat (j := 0) rfl, D.dl, _, rfl, .inl (SqL.of hl1), k, _, rfl, rfl, _, rfl, ifb (fun h3 => ?_) fun h3 => ?_⟩
    · have hk2 : k < D.ns.length := by
        have : (k : Int) < ((D.ns.map V.int).length : Int) := of_decide_eq_true h3
        rw [List.length_map] at this
        omega
      refine ⟨_, rfl, D.d, _, 0, .ref D.dl, rfl, rfl, SqL.of hd1, atI_nat (j := 0) rfl, _, rfl, D.dl, _, k, _, rfl, rfl, SqL.of hl1, atM hk2, ?_⟩
      have := Rng.at_ (m := 1000000) hD.ok hk2
      exact kk _ _ this.1 this.2 g'
    · have tail : ∀ z : Int, ∀ H2 : Hp, (∀ r : Int, 0 ≤ r → r < 2147483647 → ∀ r' : Int, 0 ≤ r' → r' < 2147483647 → Q (.int (r' % 1000000)) H1) := fun z H2 r _ _ r' _ _ => kk _ _ (Int.emod_nonneg _ (by decide)) (Int.emod_lt_of_pos _ (by decide)) g'
      refine ⟨_, rfl, 1, k, rfl, rfl, ?_⟩
      refine ⟨_, rfl, D.d, _, 0, .ref D.dl, rfl, rfl, SqL.of hd1, atI_nat (j := 0) rfl, D.dl, _, rfl, .inl (SqL.of hl1), _, 0, rfl, rfl, _, rfl, ifb (fun h4 => ?_) fun h4 => ?_⟩
      · have h0 : 0 < D.ns.length := by
          have : (0 : Int) < ((D.ns.map V.int).length : Int) := of_decide_eq_true h4
          rw [List.length_map] at this
          omega
        refine ⟨_, rfl, _, rfl, D.d, _, 0, .ref D.dl, rfl, rfl, SqL.of hd1, atI_nat (j := 0) rfl, D.dl, _, 0, _, rfl, rfl, SqL.of hl1, atM (i := 0) h0, 1009, _, rfl, rfl, .inl (by omega), _, _, rfl, rfl, ?_⟩
        refine ⟨_, rfl, _, rfl, _, _, rfl, fun r r0 r1 => ?_⟩
        refine ⟨_, _, rfl, fun r' r0' r1' => ?_⟩
        exact ⟨_, 1000000, rfl, rfl, (by show (0 : Int) < 1000000; decide), tail 0 H1 r r0 r1 r' r0' r1'⟩
      · refine ⟨_, rfl, _, rfl, _, _, rfl, fun r r0 r1 => ?_⟩
        refine ⟨_, _, rfl, fun r' r0' r1' => ?_⟩
        exact ⟨_, 1000000, rfl, rfl, (by show (0 : Int) < 1000000; decide), tail 0 H1 r r0 r1 r' r0' r1'⟩
end
/-- the draws go on and the object at B is rewritten -/
structure GoB (D : DS) (B : Addr) (H H' : Hp) : Prop where
  dr : Dr D H'
  fr : ∀ b o, b ≠ D.d → b ≠ B → H b = some o → H' b = some o
section
variable {D : DS} {B : Addr} {H H1 H2 : Hp}
theorem GoB.start (h : Dr D H) : GoB D B H H := ⟨h, fun _ _ _ _ e => e⟩
theorem GoB.trans (a : GoB D B H H1) (b : GoB D B H1 H2) : GoB D B H H2 := ⟨b.dr, fun c o n1 n2 e => b.fr c o n1 n2 (a.fr c o n1 n2 e)⟩
theorem Go.b (a : Go D H H1) : GoB D B H H1 := ⟨a.dr, fun c o n1 _ e => a.but c o n1 e⟩
theorem GoB.go (a : GoB D B H H1) (b : Go D H1 H2) : GoB D B H H2 := a.trans b.b
theorem GoB.new (a : GoB D B H H1) {p : Addr} {o : HO} (hp : H1 p = none) : GoB D B H (upd H1 p o) := ⟨a.dr.same (Same.new hp), fun c u n1 n2 e => Same.new hp _ _ (a.fr c u n1 n2 e)⟩
theorem GoB.put (a : GoB D B H H1) (n1 : B ≠ D.d) (n2 : B ≠ D.dl) {o : HO} : GoB D B H (upd H1 B o) := by
  obtain ⟨k, q⟩ := a.dr.at_
  exact ⟨⟨⟨k, by rw [upd_ne n1.symm]; exact q⟩, by rw [upd_ne n2.symm]; exact a.dr.ls, a.dr.ok⟩, fun c u m1 m2 e => by rw [upd_ne m2]; exact a.fr c u m1 m2 e⟩
theorem GoB.nw {Hb : Hp} (a : GoB D B H1 H2) (hb : Hb B ≠ none) (hd : Hb D.d ≠ none) : Same (Nw Hb H1) (Nw Hb H2) := Nw.mono fun b o h0 e => a.fr b o (fun z => hd (by rw [← z]; exact h0)) (fun z => hb (by rw [← z]; exact h0)) e
/-- from the start, where B was not yet -/
theorem GoB.end_ {o0 : HO} (g : Go D H H1) (hB : H1 B = none) (a : GoB D B (upd H1 B o0) H2) : Go D H H2 := by
  refine ⟨a.dr, fun c o n e => ?_⟩
  have e1 := g.but c o n e
  have nB : c ≠ B := ne_of_none e1 hB
  exact a.fr c o n nB (by rw [upd_ne nB]; exact e1)
theorem Dr.apart (h : Dr D H) (hB : H B = none) : B ≠ D.d ∧ B ≠ D.dl := by
  obtain ⟨k, e⟩ := h.at_
  exact ⟨(ne_of_none e hB).symm, (ne_of_none h.ls hB).symm⟩
end
theorem mod_add1 {t k n : Nat} (hn : 2 ≤ n) (ht : t < n) (hk : k < n - 1) : (t + 1 + k) % n < n ∧ (t + 1 + k) % n ≠ t := by
  refine ⟨Nat.mod_lt _ (by omega), fun e => ?_⟩
  by_cases c : t + 1 + k < n
  · rw [Nat.mod_eq_of_lt c] at e
    omega
  · rw [Nat.mod_eq_sub_mod (by omega), Nat.mod_eq_of_lt (by omega)] at e
    omega
/-- the gcd's turns: both are multiples of u, modulo m -/
structure Gc (m u a b : Int) : Prop where
  b0 : 0 ≤ b
  a0 : 0 ≤ a
  da : ∃ x, m ∣ a - x * u
  db : ∃ x, m ∣ b - x * u
theorem Gc.start {m u : Int} (hm : 2 ≤ m) (hu : 0 ≤ u) : Gc m u m u := ⟨hu, by omega, ⟨0, ⟨1, by rw [Int.zero_mul]; omega⟩⟩, ⟨1, ⟨0, by rw [Int.one_mul]; omega⟩⟩⟩
theorem Gc.turn {m u a b : Int} (g : Gc m u a b) (hb : b ≠ 0) : Gc m u b (a % b) := by
  have hb' : 0 < b := by have := g.b0; omega
  refine ⟨Int.emod_nonneg _ hb, g.b0, g.db, ?_⟩
  obtain ⟨x, hx⟩ := g.da
  obtain ⟨y, hy⟩ := g.db
  refine ⟨x - a / b * y, ?_⟩
  have e : a % b - (x - a / b * y) * u = (a - x * u) - a / b * (b - y * u) := by
    have q := Int.emod_add_mul_ediv a b
    rw [Int.sub_mul, Int.mul_sub, Int.mul_assoc, Int.mul_comm (a / b) b]
    omega
  rw [e]
  exact Int.dvd_sub hx (Int.dvd_trans hy (Int.dvd_mul_left _ _))
theorem Gc.inv {m u a b : Int} (hm : 2 ≤ m) (g : Gc m u a b) (h : a = 1) : HasInv u m := by
  subst h
  obtain ⟨x, c, hc⟩ := g.da
  refine ⟨x, ?_⟩
  have e : u * x = 1 + m * (-c) := by rw [Int.mul_neg, Int.mul_comm u x]; omega
  rw [e, Int.add_mul_emod_self_left, Int.emod_eq_of_lt (by omega) (by omega)]
def rTupOf (K : PySem.W.Frag) : List V → Hp → VK → Prop := fun xs H Q => ∃ p ys, xs = [.ref p] ∧ ((SqL K H p ys ∧ ∀ l, H l = none → Q (.ref l) (upd H l (.tup ys))) ∨ (SqT K H p ys ∧ Q (.ref p) H))
def rLenOf (K : PySem.W.Frag) : List V → Hp → VK → Prop := fun xs H Q => ∃ p ys, xs = [.ref p] ∧ (SqL K H p ys ∨ SqT K H p ys) ∧ Q (.int ys.length) H
section
variable {P : Program} {w : World} {K : PySem.W.Frag} {mg : Str → Option Value} {base : Heap}
def spLGcd : Sp := fun vs H Q _ => ∃ m u : Int, vs = [.int m, .int u] ∧ 2 ≤ m ∧ 0 ≤ u ∧ ∀ r : Int, (r = 1 → HasInv u m) → Q (.int r) H
abbrev N_LGcd : List Str := ["_law_a", "_law_b", "_law_k", "_law_c"]
theorem sc_LGcd : FnScope N_LGcd ["_law_a", "_law_b"] (defScope sLGcd) := ⟨rfl, rfl, rfl, by decide +kernel, rfl, by decide +kernel, by decide +kernel⟩
theorem ok_LGcd (T : Top K mg) : FnOk P w K mg base CX0 1 T.LGcd.f T.LGcd.fd ["_law_a", "_law_b"] spLGcd := by
  refine T.LGcd.F.ok sc_LGcd (fun vs H Q E h => ?_) (fun cdv A outer s H vs Q E hr h => ?_)
  · obtain ⟨m, u, rfl, _⟩ := h
    rfl
  · obtain ⟨m, u, rfl, hm, hu, kk⟩ := h
    refine ⟨_, (pss_cons (ps_for PassesOwn.never rfl (pi_range1 rfl T.zrange (pa_cons pe_int pa_nil)) (pg_name (i := 2) sc_LGcd.nd rfl (Or.inl rfl)) (pss_cons (ps_if (pt_cmpR op_eq (pv 1) pe_int (nomark _)) (pss_one (ps_ret (pv 0))) pss_nil)
          (pss_cons (ps_set (i := 3) sc_LGcd.nd rfl (Or.inl rfl) (pe_op op_mod (pv 0) (pv 1)))
          (pss_cons (ps_set (i := 0) sc_LGcd.nd rfl (Or.inl rfl) (pv 1))
          (pss_one (ps_set (i := 1) sc_LGcd.nd rfl (Or.inl rfl) (pv 3)))))))
      (pss_one (ps_ret (pv 0)))), ?_⟩
    refine ⟨120, rfl, by decide, by decide, for_range (lo := 0) (n := 120) (fun i σ H' => ∃ (a b : Int) (v2 v3 : Option V), σ = [some (.int a), some (.int b), v2, v3] ∧ Gc m u a b ∧ H' = H) ⟨m, u, none, none, rfl, Gc.start hm hu, rfl⟩ ?_ ?_⟩
    · rintro i σ H' hi ⟨a, b, v2, v3, rfl, g, rfl⟩
      refine ⟨_, rfl, rfl, _, rfl, ifb (fun _ => ⟨_, rfl, kk a (fun e => g.inv hm e)⟩) fun hb => ?_⟩
      have hb' : b ≠ 0 := fun z => by subst z; revert hb; decide
      refine ⟨_, rfl, _, rfl, a, b, rfl, rfl, (by show 0 < b; have := g.b0; omega), _, rfl, _, rfl, b, a % b, _, _, rfl, g.turn hb', rfl⟩
    · rintro σ H' ⟨a, b, v2, v3, rfl, g, rfl⟩
      exact ⟨_, rfl, kk a (fun e => g.inv hm e)⟩
def spLNumber : Sp := fun vs H Q _ => ∃ (D : DS) (m : Int), vs = [.ref D.d, .int m] ∧ Dr D H ∧ 2 ≤ m ∧ ∀ (r : Int) (H' : Hp), 0 ≤ r → r < m → Go D H H' → Q (.int r) H'
abbrev N_LNumber : List Str := ["_law_draws", "_law_modulus_here", "_law_pick"]
theorem sc_LNumber : FnScope N_LNumber ["_law_draws", "_law_modulus_here"] (defScope sLNumber) := ⟨rfl, rfl, rfl, by decide +kernel, rfl, by decide +kernel, by decide +kernel⟩
theorem ok_LNumber (T : Top K mg) : FnOk P w K mg base CX0 3 T.LNumber.f T.LNumber.fd ["_law_draws", "_law_modulus_here"] spLNumber := by
  refine T.LNumber.F.ok sc_LNumber (fun vs H Q E h => ?_) (fun cdv A outer s H vs Q E hr h => ?_)
  · obtain ⟨D, m, rfl, _⟩ := h
    rfl
  · obtain ⟨D, m, rfl, hD, hm, kk⟩ := h
    refine ⟨_, (pss_cons (ps_set (i := 2) sc_LNumber.nd rfl (Or.inl rfl) (pe_op op_mod (pe_call (ok_LDraw T) (hr.mono (by decide)) rfl T.LDraw.g T.LDraw.kp T.LDraw.b .nil pass0 (pa_cons (pv 0) pa_nil)) pe_int))
      (pss_cons (ps_if (pt_cmpR op_eq (pv 2) pe_int (nomark _)) (pss_one (ps_ret (pe_op op_sub (pv 1) pe_int))) pss_nil)
      (pss_cons (ps_if (pt_cmpR op_eq (pv 2) pe_int (nomark _)) (pss_one (ps_ret pe_int)) pss_nil)
      (pss_cons (ps_if (pt_cmpR op_eq (pv 2) pe_int (nomark _)) (pss_one (ps_ret pe_int)) pss_nil)
      (pss_one (ps_ret (pe_op op_mod (pe_op op_add (pe_call (ok_LDraw T) (hr.mono (by decide)) rfl T.LDraw.g T.LDraw.kp T.LDraw.b .nil pass0 (pa_cons (pv 0) pa_nil)) (pe_op op_mul pe_int (pe_call (ok_LDraw T) (hr.mono (by decide)) rfl T.LDraw.g T.LDraw.kp T.LDraw.b .nil pass0 (pa_cons (pv 0) pa_nil)))) (pv 1)))))))), ?_⟩
    refine ⟨_, rfl, D, rfl, hD, fun r H1 r0 r1 g1 => ⟨r, 6, rfl, rfl, (by show (0 : Int) < 6; decide), ?_⟩⟩
    refine ⟨_, rfl, rfl, _, rfl, ifb (fun _ => ⟨_, rfl, m, 1, rfl, rfl, kk _ _ (by omega) (by omega) g1⟩) fun _ => ?_⟩
    refine ⟨_, rfl, rfl, _, rfl, ifb (fun _ => kk 0 _ (by omega) (by omega) g1) fun _ => ?_⟩
    refine ⟨_, rfl, rfl, _, rfl, ifb (fun _ => kk 1 _ (by omega) (by omega) g1) fun _ => ?_⟩
    refine ⟨_, rfl, D, rfl, g1.dr, fun a H2 a0 a1 g2 => ⟨_, rfl, D, rfl, g2.dr, fun b H3 b0 b1 g3 => ?_⟩⟩
    refine ⟨1000000, b, rfl, rfl, .inl (by omega), a, _, rfl, rfl, _, rfl, _, m, rfl, rfl, (by show 0 < m; omega), ?_⟩
    exact kk _ _ (Int.emod_nonneg _ (by omega)) (Int.emod_lt_of_pos _ (by omega)) ((g1.trans g2).trans g3)
def spLSize : Sp := fun vs H Q _ => ∃ D : DS, vs = [.ref D.d] ∧ Dr D H ∧ ∀ (r : Int) (H' : Hp), 1 ≤ r → r ≤ 200 → Go D H H' → Q (.int r) H'
def sizes : List Int := [1, 2, 3, 4, 5, 6, 7, 8, 9, 10, 60, 199, 200]
theorem sizes_ok : ∀ x ∈ sizes, 1 ≤ x ∧ x ≤ 200 := by decide
abbrev N_LSize : List Str := ["_law_draws"]
theorem sc_LSize : FnScope N_LSize ["_law_draws"] (defScope sLSize) := ⟨rfl, rfl, rfl, by decide +kernel, rfl, by decide +kernel, by decide +kernel⟩
theorem ok_LSize (T : Top K mg) : FnOk P w K mg base CX0 3 T.LSize.f T.LSize.fd ["_law_draws"] spLSize := by
  refine T.LSize.F.ok sc_LSize (fun vs H Q E h => ?_) (fun cdv A outer s H vs Q E hr h => ?_)
  · obtain ⟨D, rfl, _⟩ := h
    rfl
  · obtain ⟨D, rfl, hD, kk⟩ := h
    refine ⟨_, (pss_one (ps_ret (pe_ix ix_list (pe_lst (pa_cons pe_int (pa_cons pe_int (pa_cons pe_int (pa_cons pe_int (pa_cons pe_int (pa_cons pe_int (pa_cons pe_int (pa_cons pe_int (pa_cons pe_int (pa_cons pe_int (pa_cons pe_int (pa_cons pe_int (pa_cons pe_int pa_nil)))))))))))))) (pe_op op_mod (pe_call (ok_LDraw T) (hr.mono (by decide)) rfl T.LDraw.g T.LDraw.kp T.LDraw.b .nil pass0 (pa_cons (pv 0) pa_nil)) pe_int) (fun _ _ => rfl)))), ?_⟩
    refine ⟨by show 13 ≤ sizeLine; decide, fun p hp => ?_⟩
    have g0 : Go D H (upd H p (.lst (sizes.map V.int))) := (Go.refl hD).new hp
    refine ⟨_, rfl, D, rfl, g0.dr, fun r H2 r0 r1 g2 => ?_⟩
    obtain ⟨j, ej⟩ : ∃ j : Nat, r % 13 = (j : Int) := ⟨(r % 13).toNat, by have := Int.emod_nonneg r (show (13 : Int) ≠ 0 by decide); omega⟩
    have hj : j < sizes.length := by have := Int.emod_lt_of_pos r (show (0 : Int) < 13 by decide); show j < 13; omega
    have hat : atI (sizes.map V.int) (r % 13) = some (.int (sizes.getD j 0)) := by rw [ej]; exact atM hj
    have hok := sizes_ok (sizes.getD j 0) (by rw [List.getD_eq_getElem?_getD, List.getElem?_eq_getElem hj]; exact List.getElem_mem hj)
    exact ⟨r, 13, rfl, rfl, (by show (0 : Int) < 13; decide), p, sizes.map V.int, r % 13, _, rfl, rfl, SqL.of (g2.but p _ (hD.apart hp).1 upd_same), hat, kk _ _ hok.1 hok.2 (g0.trans g2)⟩
def spLModulus : Sp := fun vs H Q _ => ∃ D : DS, vs = [.ref D.d] ∧ Dr D H ∧ ∀ (r : Int) (H' : Hp), 2 ≤ r → r ≤ 1000000000 → Go D H H' → Q (.int r) H'
def moduli : List Int := [2, 3, 5, 7, 10, 97, 10 ^ 9, 999999937]
theorem moduli_ok : ∀ x ∈ moduli, 2 ≤ x ∧ x ≤ 1000000000 := by decide
abbrev N_LModulus : List Str := ["_law_draws", "_law_pick"]
theorem sc_LModulus : FnScope N_LModulus ["_law_draws"] (defScope sLModulus) := ⟨rfl, rfl, rfl, by decide +kernel, rfl, by decide +kernel, by decide +kernel⟩
theorem ok_LModulus (T : Top K mg) : FnOk P w K mg base CX0 3 T.LModulus.f T.LModulus.fd ["_law_draws"] spLModulus := by
  refine T.LModulus.F.ok sc_LModulus (fun vs H Q E h => ?_) (fun cdv A outer s H vs Q E hr h => ?_)
  · obtain ⟨D, rfl, _⟩ := h
    rfl
  · obtain ⟨D, rfl, hD, kk⟩ := h
    refine ⟨_, (pss_cons (ps_set (i := 1) sc_LModulus.nd rfl (Or.inl rfl) (pe_op op_mod (pe_call (ok_LDraw T) (hr.mono (by decide)) rfl T.LDraw.g T.LDraw.kp T.LDraw.b .nil pass0 (pa_cons (pv 0) pa_nil)) pe_int))
      (pss_cons (ps_if (pt_cmpR op_eq (pv 1) pe_int (nomark _)) (pss_one (ps_ret (pe_op op_add pe_int (pe_op op_mod (pe_op op_add (pe_call (ok_LDraw T) (hr.mono (by decide)) rfl T.LDraw.g T.LDraw.kp T.LDraw.b .nil pass0 (pa_cons (pv 0) pa_nil)) (pe_op op_mul pe_int (pe_call (ok_LDraw T) (hr.mono (by decide)) rfl T.LDraw.g T.LDraw.kp T.LDraw.b .nil pass0 (pa_cons (pv 0) pa_nil)))) (pe_op op_sub (pe_op op_pow pe_int pe_int) pe_int))))) pss_nil)
      (pss_one (ps_ret (pe_ix ix_list (pe_lst (pa_cons pe_int (pa_cons pe_int (pa_cons pe_int (pa_cons pe_int (pa_cons pe_int (pa_cons pe_int (pa_cons (pe_op op_pow pe_int pe_int) (pa_cons pe_int pa_nil))))))))) (pe_op op_mod (pe_call (ok_LDraw T) (hr.mono (by decide)) rfl T.LDraw.g T.LDraw.kp T.LDraw.b .nil pass0 (pa_cons (pv 0) pa_nil)) pe_int) (fun _ _ => rfl)))))), ?_⟩
    refine ⟨_, rfl, D, rfl, hD, fun a H1 a0 a1 g1 => ⟨a, 8, rfl, rfl, (by show (0 : Int) < 8; decide), ?_⟩⟩
    refine ⟨_, rfl, rfl, _, rfl, ifb (fun _ => ?_) fun _ => ?_⟩
    · refine ⟨_, rfl, D, rfl, g1.dr, fun b H2 b0 b1 g2 => ⟨_, rfl, D, rfl, g2.dr, fun c H3 c0 c1 g3 => ?_⟩⟩
      refine ⟨1000000, c, rfl, rfl, .inl (by omega), b, _, rfl, rfl, 10, 9, rfl, rfl, (by show (0 : Int) ≤ 9 ∧ (9 : Int) ≤ 1000000 ∧ (10 : Int).natAbs < 2 ^ 64; decide), _, 1, rfl, rfl, _, _, rfl, rfl, (by show (0 : Int) < 10 ^ 9 - 1; decide), 2, _, rfl, rfl, ?_⟩
      have h0 : 0 ≤ (b + 1000000 * c) % (10 ^ 9 - 1) := Int.emod_nonneg _ (by decide)
      have h1 : (b + 1000000 * c) % (10 ^ 9 - 1) < 10 ^ 9 - 1 := Int.emod_lt_of_pos _ (by decide)
      refine kk (2 + (b + 1000000 * c) % (10 ^ 9 - 1)) _ (by omega) ?_ ((g1.trans g2).trans g3)
      have : (10 : Int) ^ 9 - 1 = 999999999 := by decide
      omega
    · refine ⟨10, 9, rfl, rfl, (by show (0 : Int) ≤ 9 ∧ (9 : Int) ≤ 1000000 ∧ (10 : Int).natAbs < 2 ^ 64; decide), (by show 8 ≤ sizeLine; decide), fun p hp => ?_⟩
      have g0 : Go D H (upd H1 p (.lst (moduli.map V.int))) := g1.new hp
      refine ⟨_, rfl, D, rfl, g0.dr, fun r H2 r0 r1 g2 => ?_⟩
      obtain ⟨j, ej⟩ : ∃ j : Nat, r % 8 = (j : Int) := ⟨(r % 8).toNat, by have := Int.emod_nonneg r (show (8 : Int) ≠ 0 by decide); omega⟩
      have hj : j < moduli.length := by have := Int.emod_lt_of_pos r (show (0 : Int) < 8 by decide); show j < 8; omega
      have hat : atI (moduli.map V.int) (r % 8) = some (.int (moduli.getD j 0)) := by rw [ej]; exact atM hj
      have hok := moduli_ok (moduli.getD j 0) (by rw [List.getD_eq_getElem?_getD, List.getElem?_eq_getElem hj]; exact List.getElem_mem hj)
      exact ⟨r, 8, rfl, rfl, (by show (0 : Int) < 8; decide), p, moduli.map V.int, r % 8, _, rfl, rfl, SqL.of (g2.but p _ (g1.dr.apart hp).1 upd_same), hat, kk _ _ hok.1 hok.2 (g0.trans g2)⟩
def spLIsPrime : Sp := fun vs H Q _ => ∃ m : Int, vs = [.int m] ∧ 2 ≤ m ∧ ∀ (b : Bool) (H' : Hp), (b = true → Pr m) → Same H H' → Q (.bl b) H'
abbrev N_LIsPrime : List Str := ["_law_number_here", "_law_k"]
theorem sc_LIsPrime : FnScope N_LIsPrime ["_law_number_here"] (defScope sLIsPrime) := ⟨rfl, rfl, rfl, by decide +kernel, rfl, by decide +kernel, by decide +kernel⟩
theorem ok_LIsPrime (T : Top K mg) : FnOk P w K mg base CX0 1 T.LIsPrime.f T.LIsPrime.fd ["_law_number_here"] spLIsPrime := by
  refine T.LIsPrime.F.ok sc_LIsPrime (fun vs H Q E h => ?_) (fun cdv A outer s H vs Q E hr h => ?_)
  · obtain ⟨m, rfl, _⟩ := h
    rfl
  · obtain ⟨m, rfl, hm, kk⟩ := h
    refine ⟨_, (pss_cons (ps_if (pt_cmpR op_gt (pv 0) pe_int (nomark _)) (pss_one (ps_ret (pe_cmpR op_eq (pv 0) pe_int (nomark _)))) pss_nil)
      (pss_one (ps_ret (pe_cmpR op_eq (pe_callB call_len_seq rfl T.zlen (by decide +kernel) (pa_cons (pe_lc (own := [("_law_k", 1)]) (g := (gName 1)) rfl sc_LIsPrime.nd (pi_range2 rfl T.zrange (pa_cons pe_int (pa_cons (pv 0) pa_nil))) (blkOk_by (N := N_LIsPrime) (sc := defScope sLIsPrime) (own := [("_law_k", 1)]) (by decide +kernel)) (fun _ _ _ _ _ => (pg_name (i := 1) sc_LIsPrime.nd rfl (Or.inl rfl))) (fun _ _ _ _ _ => (pts_one (pt_cmpR op_eq (pe_op op_mod (pv 0) (pv 1)) pe_int (nomark _)))) (fun _ _ _ _ _ => (pv 1))) pa_nil)) pe_int (nomark _))))), ?_⟩
    refine ⟨_, rfl, m, 2000, rfl, rfl, _, rfl, ifb (fun _ => ?_) fun h3 => ?_⟩
    · refine ⟨_, rfl, rfl, kk _ H (fun z => ?_) (Same.refl _)⟩
      have e : m = 999999937 := V.int.inj (of_decide_eq_true z)
      rw [e]
      exact pr_big
    · have m2 : ¬ 2000 < m := of_decide_eq_false h3
      refine ⟨_, rfl, 2, m, rfl, ⟨by decide, by decide, by omega, by omega⟩, fun B hB => ?_⟩
      refine lc_range (lo := 2) (n := (m - 2).toNat) (fun i H' => Same H H' ∧ ∃ xs : List V, H' B = some (.lst xs) ∧ xs.length ≤ i ∧ (xs = [] → ∀ k : Nat, k < i → m % (2 + (k : Int)) ≠ 0)) ⟨Same.new hB, [], upd_same, Nat.le_refl _, fun _ k hk => absurd hk (Nat.not_lt_zero _)⟩ ?_ ?_
      · rintro i H' hi ⟨s1, xs, h1, l1, r1⟩
        refine ⟨rfl, _, rfl, _, rfl, m, 2 + (i : Int), rfl, rfl, (by show (0 : Int) < 2 + (i : Int); omega), rfl, _, rfl, ifb (fun _ => ?_) fun h4 => ?_⟩
        · refine ⟨_, rfl, xs, h1, small_line (by omega), s1.rewr hB, _, upd_same, ?_, fun z => ?_⟩
          · rw [List.length_append]
            show xs.length + 1 ≤ i + 1
            omega
          · cases xs <;> cases z
        · refine ⟨s1, xs, h1, by omega, fun z k hk => ?_⟩
          by_cases c : k = i
          · subst c
            intro e
            have : decide (V.int (m % (2 + (k : Int))) = V.int 0) = true := decT (by rw [e])
            have h4' : decide (V.int (m % (2 + (k : Int))) = V.int 0) = false := h4
            rw [this] at h4'
            cases h4'
          · exact r1 z k (by omega)
      · rintro H' ⟨s1, xs, h1, l1, r1⟩
        refine ⟨B, xs, rfl, .inl (SqL.of h1), rfl, kk _ H' (fun z => ⟨hm, fun k hk2 hkm => ?_⟩) s1⟩
        have e : ((xs.length : Nat) : Int) = 0 := V.int.inj (of_decide_eq_true z)
        have e2 : xs = [] := List.eq_nil_of_length_eq_zero (by omega)
        have q := r1 e2 (k - 2) (by omega)
        rw [show (2 : Int) + ((k - 2 : Nat) : Int) = (k : Int) by omega] at q
        exact q
def spLFactors : Sp := fun vs H Q _ => ∃ (D : DS) (nc ni t : Nat), vs = [.ref D.d, .int nc, .int ni, .int t] ∧ Dr D H ∧ t < nc ∧
  ∀ (q : Addr) (xs : List V) (fs : List (Bool × Nat)) (H' : Hp), Go D H H' → Nw H H' q = some (.tup xs) → Paired (FacAt (Nw H H')) xs fs → fs.length ≤ 3 → (∀ f ∈ fs, OkF nc ni t f) → Q (.ref q) H'
abbrev N_LFactors : List Str := ["_law_draws", "_law_cells", "_law_inputs", "_law_target", "_law_factors_here", "_law_k"]
theorem sc_LFactors : FnScope N_LFactors ["_law_draws", "_law_cells", "_law_inputs", "_law_target"] (defScope sLFactors) := ⟨rfl, rfl, rfl, by decide +kernel, rfl, by decide +kernel, by decide +kernel⟩
theorem ok_LFactors (T : Top K mg) : FnOk P w K mg base CX0 3 T.LFactors.f T.LFactors.fd ["_law_draws", "_law_cells", "_law_inputs", "_law_target"] spLFactors := by
  refine T.LFactors.F.ok sc_LFactors (fun vs H Q E h => ?_) (fun cdv A outer s H vs Q E hr h => ?_)
  · obtain ⟨D, nc, ni, t, rfl, _⟩ := h
    rfl
  · obtain ⟨D, nc, ni, t, rfl, hD, ht, kk⟩ := h
    refine ⟨_, (pss_cons (ps_set (i := 4) sc_LFactors.nd rfl (Or.inl rfl) (pe_lst pa_nil))
      (pss_cons (ps_for PassesOwn.never rfl (pi_range1 rfl T.zrange (pa_cons (pe_op op_mod (pe_call (ok_LDraw T) (hr.mono (by decide)) rfl T.LDraw.g T.LDraw.kp T.LDraw.b .nil pass0 (pa_cons (pv 0) pa_nil)) pe_int) pa_nil)) (pg_name (i := 5) sc_LFactors.nd rfl (Or.inl rfl)) (pss_one (ps_if (PT.weak (t' := fun σ H' Qb => ∃ (B : Addr) (i : Nat), σ = [some (.ref D.d), some (.int nc), some (.int ni), some (.int t), some (.ref B), some (.int (0 + (i : Int)))] ∧ Dr D H' ∧ ∀ b H'', Go D H' H'' → (b = true → 0 < ni) → Qb b H'') (PW.pt (pw_and (pt_cmpR op_gt (pv 2) pe_int (nomark _)) (pw_and1 (pt_cmpR op_eq (pe_op op_mod (pe_call (ok_LDraw T) (hr.mono (by decide)) rfl T.LDraw.g T.LDraw.kp T.LDraw.b .nil pass0 (pa_cons (pv 0) pa_nil)) pe_int) pe_int (nomark _))))) (by
        rintro σ H' Qb ⟨B, i, rfl, hD', q⟩
        refine ⟨_, rfl, ni, 0, rfl, rfl, _, rfl, ifb (fun c1 => ?_) fun c1 => q false H' (Go.refl hD') (fun z => nomatch z)⟩
        have hni : (0 : Int) < ni := of_decide_eq_true c1
        refine ⟨_, rfl, D, rfl, hD', fun a H1 a0 a1 g1 => ⟨a, 2, rfl, rfl, (by show (0 : Int) < 2; decide), rfl, _, rfl, q _ H1 g1 (fun _ => by omega)⟩⟩)) (pss_one (ps_expr (pe_bm PySem.F.plainAttrs_list PySem.F.slot_list_append PySem.F.type_list_append mt_append (pv 4) (pa_cons (pe_tup (pa_cons pe_str (pa_cons (pe_op op_mod (pe_call (ok_LDraw T) (hr.mono (by decide)) rfl T.LDraw.g T.LDraw.kp T.LDraw.b .nil pass0 (pa_cons (pv 0) pa_nil)) (pv 2)) pa_nil))) pa_nil)))) (pss_one (ps_if (pt_cmpR op_gt (pv 1) pe_int (nomark _)) (pss_one (ps_expr (pe_bm PySem.F.plainAttrs_list PySem.F.slot_list_append PySem.F.type_list_append mt_append (pv 4) (pa_cons (pe_tup (pa_cons pe_str (pa_cons (pe_op op_mod (pe_op op_add (pe_op op_add (pv 3) pe_int) (pe_op op_mod (pe_call (ok_LDraw T) (hr.mono (by decide)) rfl T.LDraw.g T.LDraw.kp T.LDraw.b .nil pass0 (pa_cons (pv 0) pa_nil)) (pe_op op_sub (pv 1) pe_int))) (pv 1)) pa_nil))) pa_nil)))) pss_nil)))))
      (pss_one (ps_ret (pe_callTy call_tuple_of rfl T.ztuple (by decide +kernel) (pa_cons (pv 4) pa_nil)))))), ?_⟩
    refine ⟨by show 0 ≤ sizeLine; decide, fun B hB => ?_⟩
    obtain ⟨nb1, nb2⟩ := hD.apart hB
    have hDb : Dr D (upd H B (.lst [])) := hD.same (Same.new hB)
    have hb : upd H B (.lst []) B ≠ none := by rw [upd_same]; exact fun z => nomatch z
    have hd : upd H B (.lst []) D.d ≠ none := by
      obtain ⟨o, e⟩ := hDb.some_
      rw [e]
      exact fun z => nomatch z
    refine ⟨_, rfl, D, rfl, hDb, fun r H1 r0 r1 g1 => ⟨r, 4, rfl, rfl, (by show (0 : Int) < 4; decide), ?_⟩⟩
    have q0 : 0 ≤ r % 4 := Int.emod_nonneg _ (by decide)
    have q1 : r % 4 < 4 := Int.emod_lt_of_pos _ (by decide)
    refine ⟨r % 4, rfl, by omega, by omega, for_range (lo := 0) (n := (r % 4).toNat) (fun i σ H' => ∃ (v5 : Option V) (xs : List V) (fs : List (Bool × Nat)), σ = [some (.ref D.d), some (.int nc), some (.int ni), some (.int t), some (.ref B), v5] ∧ GoB D B (upd H B (.lst [])) H' ∧
        H' B = some (.lst xs) ∧ Paired (FacAt (Nw (upd H B (.lst [])) H')) xs fs ∧ fs.length ≤ i ∧ ∀ f ∈ fs, OkF nc ni t f) ⟨none, [], [], rfl, g1.b, g1.but B _ nb1 upd_same, .nil, Nat.le_refl _, fun _ hh => nomatch hh⟩ ?_ ?_⟩
    · rintro i σ H2 hi ⟨v5, xs, fs, rfl, g2, h2, p2, l2, o2⟩
      -- one more factor
      have one : ∀ (b : Bool) (k : Nat) (H3 : Hp), Go D H2 H3 → OkF nc ni t (b, k) → ∀ p, H3 p = none → ∃ (v5 : Option V) (xs' : List V) (fs' : List (Bool × Nat)), [some (V.ref D.d), some (.int nc), some (.int ni), some (.int t), some (.ref B), some (.int (0 + (i : Int)))] = [some (V.ref D.d), some (.int nc), some (.int ni), some (.int t), some (.ref B), v5] ∧
          GoB D B (upd H B (.lst [])) (upd (upd H3 p (.tup [.str (fname b), .int k])) B (.lst (xs ++ [.ref p]))) ∧ (upd (upd H3 p (.tup [.str (fname b), .int k])) B (.lst (xs ++ [.ref p]))) B = some (.lst xs') ∧
          Paired (FacAt (Nw (upd H B (.lst [])) (upd (upd H3 p (.tup [.str (fname b), .int k])) B (.lst (xs ++ [.ref p]))))) xs' fs' ∧ fs'.length ≤ i + 1 ∧ ∀ f ∈ fs', OkF nc ni t f := by
        intro b k H3 g3 ok p hp
        have gg : GoB D B H2 (upd (upd H3 p (.tup [.str (fname b), .int k])) B (.lst (xs ++ [.ref p]))) := (g3.b.new hp).put nb1 nb2
        have pB : p ≠ B := fun z => by
          rw [z] at hp
          rw [g3.but B _ nb1 h2] at hp
          cases hp
        have pH : upd H B (.lst []) p = none := by
          cases e : upd H B (.lst []) p with
          | none => rfl
          | some o =>
            have pd : p ≠ D.d := fun z => by
              obtain ⟨o', e'⟩ := g3.dr.some_
              rw [z, e'] at hp
              cases hp
            have := g3.but p o pd (g2.fr p o pd pB e)
            rw [this] at hp
            cases hp
        have fa : FacAt (Nw (upd H B (.lst [])) (upd (upd H3 p (.tup [.str (fname b), .int k])) B (.lst (xs ++ [.ref p])))) (.ref p) (b, k) := ⟨p, rfl, by rw [Nw.of pH, upd_ne pB, upd_same]⟩
        refine ⟨_, xs ++ [.ref p], fs ++ [(b, k)], rfl, g2.trans gg, upd_same, pd_app fa (pd_mono (fun _ _ => FacAt.mono (gg.nw hb hd)) p2), ?_, fun f hf => ?_⟩
        · rw [List.length_append]
          show fs.length + 1 ≤ i + 1
          omega
        · rcases List.mem_append.mp hf with q | q
          · exact o2 f q
          · rw [List.mem_singleton.mp q]
            exact ok
      have lx : xs.length < sizeLine := small_line (by rw [pd_len p2]; omega)
      refine ⟨B, i, rfl, g2.dr, fun b H3 g3 hb3 => ifb (fun hbt => ?_) fun hbf => ?_⟩
      · have hni := hb3 hbt
        refine ⟨_, rfl, .inl ⟨rfl, _, SqL.of (g3.but B _ nb1 h2)⟩, _, rfl, D, rfl, g3.dr, fun a H4 a0 a1 g4 => ⟨_, rfl, a, ni, rfl, rfl, (by show (0 : Int) < ni; omega), (by show 2 ≤ sizeLine; decide), fun p hp => ?_⟩⟩
        have z0 : 0 ≤ a % (ni : Int) := Int.emod_nonneg _ (by omega)
        have z1 : a % (ni : Int) < ni := Int.emod_lt_of_pos _ (by omega)
        have h4 : H4 B = some (.lst xs) := g4.but B _ nb1 (g3.but B _ nb1 h2)
        have pB : B ≠ p := ne_of_none h4 hp
        have o := one false (a % (ni : Int)).toNat H4 (g3.trans g4) ⟨(fun z => nomatch z), fun _ => by show (a % (ni : Int)).toNat < ni; omega⟩ p hp
        rw [show (((a % (ni : Int)).toNat : Nat) : Int) = a % (ni : Int) by omega] at o
        exact ⟨B, xs, _, rfl, rfl, (by rw [upd_ne pB]; exact h4), lx, o⟩
      · refine ⟨_, rfl, nc, 1, rfl, rfl, _, rfl, ifb (fun hc => ?_) fun _ => ?_⟩
        · have hnc : (1 : Int) < nc := of_decide_eq_true hc
          refine ⟨_, rfl, .inl ⟨rfl, _, SqL.of (g3.but B _ nb1 h2)⟩, _, rfl, t, 1, rfl, rfl, _, rfl, D, rfl, g3.dr, fun a H4 a0 a1 g4 => ⟨_, rfl, nc, 1, rfl, rfl, a, _, rfl, rfl, (by show (0 : Int) < (nc : Int) - 1; omega), _, _, rfl, rfl, _, rfl, _, nc, rfl, rfl, (by show (0 : Int) < nc; omega), (by show 2 ≤ sizeLine; decide), fun p hp => ?_⟩⟩
          have z0 : 0 ≤ a % ((nc : Int) - 1) := Int.emod_nonneg _ (by omega)
          have z1 : a % ((nc : Int) - 1) < (nc : Int) - 1 := Int.emod_lt_of_pos _ (by omega)
          obtain ⟨k, hk⟩ : ∃ k : Nat, a % ((nc : Int) - 1) = (k : Int) := ⟨(a % ((nc : Int) - 1)).toNat, by omega⟩
          have m1 := mod_add1 (t := t) (k := k) (n := nc) (by omega) ht (by omega)
          have ev : ((t : Int) + 1 + a % ((nc : Int) - 1)) % (nc : Int) = (((t + 1 + k) % nc : Nat) : Int) := by
            rw [hk, Int.natCast_emod]
            rfl
          have h4 : H4 B = some (.lst xs) := g4.but B _ nb1 (g3.but B _ nb1 h2)
          have pB : B ≠ p := ne_of_none h4 hp
          have o := one true ((t + 1 + k) % nc) H4 (g3.trans g4) ⟨fun _ => m1, fun z => nomatch z⟩ p hp
          rw [← ev] at o
          exact ⟨B, xs, _, rfl, rfl, (by rw [upd_ne pB]; exact h4), lx, o⟩
        · exact ⟨_, xs, fs, rfl, g2.go g3, g3.but B _ nb1 h2, pd_mono (fun _ _ => FacAt.mono (g3.b.nw hb hd)) p2, by omega, o2⟩
    · rintro σ H2 ⟨v5, xs, fs, rfl, g2, h2, p2, l2, o2⟩
      refine ⟨_, rfl, B, xs, rfl, .inl ⟨SqL.of h2, fun q hq => ?_⟩⟩
      have gF : Go D H H2 := GoB.end_ (Go.refl hD) hB g2
      have qH : H q = none := gF.free hq
      refine kk q xs fs _ (gF.new hq) (by rw [Nw.of qH, upd_same]) (pd_mono (fun _ _ => FacAt.mono ?_) p2) (by omega) o2
      intro b o e
      have e1 := (Nw.lift (H0 := H) (H1 := upd H B (.lst [])) (H := H2) fun b hbb => by
        by_cases c : b = B
        · rw [c]; exact hB
        · rw [upd_ne c] at hbb; exact hbb) b o e
      exact Nw.mono (fun b o _ e => Same.new hq b o e) b o e1
end
theorem GoB.free {D : DS} {B : Addr} {H H' : Hp} (a : GoB D B H H') (hB : ∃ o, H' B = some o) {p : Addr} (hp : H' p = none) : H p = none := by
  cases e : H p with
  | none => rfl
  | some o =>
    have pd : p ≠ D.d := fun z => by
      obtain ⟨o', e'⟩ := a.dr.some_
      rw [z, e'] at hp
      cases hp
    have pB : p ≠ B := fun z => by
      obtain ⟨o', e'⟩ := hB
      rw [z, e'] at hp
      cases hp
    rw [a.fr p o pd pB e] at hp
    cases hp
theorem none_upd {H : Hp} {B : Addr} {o : HO} (hB : H B = none) : ∀ b, upd H B o b = none → H b = none := fun b h => by
  by_cases c : b = B
  · rw [c]; exact hB
  · rw [upd_ne c] at h; exact h
theorem some_upd {H : Hp} {B : Addr} {o : HO} : upd H B o B ≠ none := by rw [upd_same]; exact fun z => nomatch z
theorem Dr.nn {D : DS} {H : Hp} (h : Dr D H) : H D.d ≠ none := by
  obtain ⟨o, e⟩ := h.some_
  rw [e]
  exact fun z => nomatch z
def compScope (e : Expr) : Scope := match e with
  | .ListComp _ _ sc _ => sc
  | _ => { kind := .function, names := [], isGenerator := false, isCoroutine := false }
def asgVal (s : Stmt) : Expr := match s with
  | .Assign _ v _ => v
  | _ => .Constant .none 0 ⟨0, 0, 0, 0⟩
def inScope : Scope := compScope (asgVal ((defBody sLLook).getD 1 (.Pass ⟨0, 0, 0, 0⟩)))
/-- what is known ahead of _law_look's last row -/
def tailLook (D : DS) (m : Int) (nc t : Nat) (H : Hp) (Q : VK) : TS := fun E σ H' => E.rt = Q ∧ ∃ (k : Int) (B : Addr) (v6 v7 : Option V) (a b : Nat) (xs : List V) (tb : List (List Int)),
  σ = [some (.ref D.d), some (.int m), some (.int nc), some (.int t), some (.int k), some (.ref B), v6, v7, some (.int a), some (.int b)] ∧ a < nc ∧ b < nc ∧ t ≠ a ∧ t ≠ b ∧ a ≠ b ∧ Go D H H' ∧ B ≠ D.d ∧ H' B = some (.lst xs) ∧ Paired (RowAt (Nw H H')) xs tb ∧ OkT m tb
/-- .. ahead of _law_step's last two -/
def tailStep (D : DS) (m : Int) (nc ni : Nat) (H : Hp) (Q : VK) : TS := fun E σ H' => E.rt = Q ∧ ∃ (t : Nat) (pk : Int) (v6 : Option V), σ = [some (.ref D.d), some (.int m), some (.int nc), some (.int ni), some (.int t), some (.int pk), v6] ∧ t < nc ∧ Go D H H'
section
variable {P : Program} {w : World} {K : PySem.W.Frag} {mg : Str → Option Value} {base : Heap}
def spLLook : Sp := fun vs H Q _ => ∃ (D : DS) (m : Int) (nc t : Nat), vs = [.ref D.d, .int m, .int nc, .int t] ∧ Dr D H ∧ 3 ≤ nc ∧ t < nc ∧ Pr m ∧
  ∀ (v : V) (s : Int) (tb : List (List Int)) (a b : Nat) (H' : Hp), Go D H H' → StpAt (Nw H H') v (.look t s tb a b) → (∀ ni, OkS m nc ni (.look t s tb a b)) → Q v H'
abbrev N_LLook : List Str := ["_law_draws", "_law_modulus_here", "_law_cells", "_law_target", "_law_size_here", "_law_rows", "_law_j", "_law_i", "_law_a", "_law_b"]
theorem sc_LLook : FnScope N_LLook ["_law_draws", "_law_modulus_here", "_law_cells", "_law_target"] (defScope sLLook) := ⟨rfl, rfl, rfl, by decide +kernel, rfl, by decide +kernel, by decide +kernel⟩
theorem ok_LLook (T : Top K mg) : FnOk P w K mg base CX0 4 T.LLook.f T.LLook.fd ["_law_draws", "_law_modulus_here", "_law_cells", "_law_target"] spLLook := by
  refine T.LLook.F.ok sc_LLook (fun vs H Q E h => ?_) (fun cdv A outer s H vs Q E hr h => ?_)
  · obtain ⟨D, m, nc, t, rfl, _⟩ := h
    rfl
  · obtain ⟨D, m, nc, t, rfl, hD, hnc, ht, hp, kk⟩ := h
    have hm : 2 ≤ m := hp.1
    refine ⟨_, (pss_cons (ps_set (i := 4) sc_LLook.nd rfl (Or.inr rfl) (pe_op op_add pe_int (pe_op op_mod (pe_call (ok_LDraw T) (hr.mono (by decide)) rfl T.LDraw.g T.LDraw.kp T.LDraw.b .nil pass0 (pa_cons (pv 0) pa_nil)) (pe_callB (call_min2 rfl) rfl T.zmin (by decide +kernel) (pa_cons pe_int (pa_cons (pv 1) pa_nil))))))
      (pss_cons (ps_setLc (i := 5) (own := [("_law_i", 7)]) (g := (gName 7)) (tt := tYes) (te := tCB (rTupOf K) (tCons (tLc (iRng1 (tCons (tVar 4) tNil)) (gName 6) tYes (tCall spLNumber [] E0 (tCons (tVar 0) (tCons (tVar 1) tNil))) [6]) tNil)) rfl sc_LLook.nd rfl rfl (sw_true rfl rfl rfl (by decide +kernel)) (pi_range1 rfl T.zrange (pa_cons (pv 4) pa_nil)) (blkOk_by (N := N_LLook) (sc := defScope sLLook) (own := [("_law_i", 7)]) (by decide +kernel)) (fun _ _ _ _ _ => (pg_name (i := 7) sc_LLook.nd rfl (Or.inl rfl))) (fun _ _ _ _ _ => pts_nil) (fun _ _ _ _ _ => (pe_callTy call_tuple_of rfl T.ztuple (by decide +kernel) (pa_cons (pe_lc (own := [("_law_j", 6)]) (g := (gName 6)) (tt := tYes) rfl sc_LLook.nd (pi_range1 rfl T.zrange (pa_cons (pv 4) pa_nil)) (blkOk_by (N := N_LLook) (sc := relS inScope (defScope sLLook)) (own := [("_law_j", 6)]) (by decide +kernel)) (fun _ _ _ _ _ => (pg_name (i := 6) sc_LLook.nd rfl (Or.inl rfl))) (fun _ _ _ _ _ => pts_nil) (fun _ _ _ _ _ => (pe_call (ok_LNumber T) (hr.mono (by decide)) rfl T.LNumber.g T.LNumber.kp T.LNumber.b .nil pass0 (pa_cons (pv 0) (pa_cons (pv 1) pa_nil))))) pa_nil))))
      (pss_cons (ps_set (i := 8) sc_LLook.nd rfl (Or.inl rfl) (pe_op op_mod (pe_op op_add (pe_op op_add (pv 3) pe_int) (pe_op op_mod (pe_call (ok_LDraw T) (hr.mono (by decide)) rfl T.LDraw.g T.LDraw.kp T.LDraw.b .nil pass0 (pa_cons (pv 0) pa_nil)) (pe_op op_sub (pv 2) pe_int))) (pv 2)))
      (pss_cons (ps_set (i := 9) sc_LLook.nd rfl (Or.inl rfl) (pe_op op_mod (pe_op op_add (pv 3) pe_int) (pv 2)))
      (pss_cons (ps_if (pt_cmpR op_eq (pv 8) (pv 9) (nomark _)) (pss_one (ps_set (i := 9) sc_LLook.nd rfl (Or.inl rfl) (pe_op op_mod (pe_op op_add (pv 3) pe_int) (pv 2)))) pss_nil)
      (PSs.weak (t' := tailLook D m nc t H Q) (pss_one (ps_ret (pe_tup (pa_cons pe_str (pa_cons (pv 3) (pa_cons (pe_ix ix_list (pe_lst (pa_cons pe_int (pa_cons (pe_op op_sub (pv 1) pe_int) pa_nil))) (pe_op op_mod (pe_call (ok_LDraw T) (hr.mono (by decide)) rfl T.LDraw.g T.LDraw.kp T.LDraw.b .nil pass0 (pa_cons (pv 0) pa_nil)) pe_int) (fun _ _ => rfl)) (pa_cons (pe_callTy call_tuple_of rfl T.ztuple (by decide +kernel) (pa_cons (pv 5) pa_nil)) (pa_cons (pv 8) (pa_cons (pv 9) pa_nil))))))))) (by
        rintro E' σ H' ⟨eE, k, B, v6, v7, a, b, xs, tb, rfl, ha, hb, hta, htb, hab, g, nb, hB, pB, okT⟩
        refine ⟨_, rfl, _, rfl, m, 1, rfl, rfl, (by show 2 ≤ sizeLine; decide), fun l hl => ⟨_, rfl, D, rfl, (g.new hl).dr, fun r H2 r0 r1 g2 => ⟨r, 2, rfl, rfl, (by show (0 : Int) < 2; decide), ?_⟩⟩⟩
        have hs : atI [V.int 1, V.int (m - 1)] (r % 2) = some (.int (if r % 2 = 0 then 1 else m - 1)) := by
          by_cases c : r % 2 = 0
          · rw [if_pos c, c]
            rfl
          · have c1 : r % 2 = 1 := by omega
            rw [if_neg c, c1]
            rfl
        have nl : l ≠ D.d := (g.dr.apart hl).1
        refine ⟨l, [V.int 1, V.int (m - 1)], r % 2, _, rfl, rfl, SqL.of (g2.but l _ nl upd_same), hs, ?_⟩
        have hB2 : H2 B = some (.lst xs) := g2.but B _ nb (Same.new hl _ _ hB)
        refine ⟨_, rfl, B, xs, rfl, .inl ⟨SqL.of hB2, fun p2 hp2 => ⟨_, rfl, _, rfl, (by show 6 ≤ sizeLine; decide), fun p3 hp3 => ?_⟩⟩⟩
        have g12 : Go D H H2 := (g.new hl).trans g2
        have g4 : Go D H (upd (upd H2 p2 (.tup xs)) p3 (.tup [.str "table", .int t, .int (if r % 2 = 0 then 1 else m - 1), .ref p2, .int a, .int b])) := (g12.new hp2).new hp3
        have q2 : H p2 = none := g12.free hp2
        have q3 : H p3 = none := (g12.new hp2).free hp3
        have n23 : p2 ≠ p3 := fun z => by rw [← z, upd_same] at hp3; cases hp3
        have mono : Same (Nw H H') (Nw H (upd (upd H2 p2 (.tup xs)) p3 (.tup [.str "table", .int t, .int (if r % 2 = 0 then 1 else m - 1), .ref p2, .int a, .int b]))) := Nw.mono fun b o h0 e => by
          have nd : b ≠ D.d := fun z => hD.nn (by rw [← z]; exact h0)
          exact Same.new hp3 _ _ (Same.new hp2 _ _ (g2.but b o nd (Same.new hl _ _ e)))
        rw [show E'.rt = Q from eE]
        refine kk (.ref p3) (if r % 2 = 0 then 1 else m - 1) tb a b _ g4 ⟨p3, p2, rfl, by rw [Nw.of q3, upd_same], xs, by rw [Nw.of q2, upd_ne n23, upd_same], pd_mono (fun _ _ => RowAt.mono mono) pB⟩ fun ni => ⟨ht, ha, hb, hta, htb, hab, ?_, hp, okT⟩
        split
        · exact .inl rfl
        · exact .inr rfl))))))), ?_⟩
    refine ⟨_, rfl, D, rfl, hD, fun r H1 r0 r1 g1 => ⟨_, rfl, 3, m, rfl, r, _, rfl, rfl, (by show (0 : Int) < if m < 3 then m else 3; split <;> omega), 1, _, rfl, rfl, ?_⟩⟩
    have z0 : 0 ≤ r % (if m < 3 then m else 3) := Int.emod_nonneg _ (by split <;> omega)
    have z1 : r % (if m < 3 then m else 3) < (if m < 3 then m else 3) := Int.emod_lt_of_pos _ (by split <;> omega)
    have z2 : (if m < 3 then m else 3) ≤ 3 := by split <;> omega
    have z3 : (if m < 3 then m else 3) ≤ m := by split <;> omega
    generalize r % (if m < 3 then m else 3) = z at z0 z1
    generalize (if m < 3 then m else 3) = y at z1 z2 z3
    -- rows
    refine ⟨_, rfl, 1 + z, rfl, by omega, by omega, fun B hB => ?_⟩
    obtain ⟨nb1, nb2⟩ := g1.dr.apart hB
    have hDb : Dr D (upd H1 B (.lst [])) := g1.dr.same (Same.new hB)
    refine lc_range (lo := 0) (n := (1 + z).toNat) (fun i H' => GoB D B (upd H1 B (.lst [])) H' ∧ ∃ (xs : List V) (tb : List (List Int)), H' B = some (.lst xs) ∧ Paired (RowAt (Nw (upd H1 B (.lst [])) H')) xs tb ∧ tb.length = i ∧ ∀ row ∈ tb, row.length = (1 + z).toNat ∧ ∀ e ∈ row, 0 ≤ e ∧ e < m)
      ⟨GoB.start hDb, [], [], upd_same, .nil, rfl, fun _ hh => nomatch hh⟩ ?_ ?_
    · rintro i H2 hi ⟨g2, xs, tb, h2, p2, l2, o2⟩
      refine ⟨rfl, _, rfl, 1 + z, rfl, by omega, by omega, fun B2 hB2 => ?_⟩
      obtain ⟨mb1, mb2⟩ := g2.dr.apart hB2
      refine lc_range (lo := 0) (n := (1 + z).toNat) (fun j H' => GoB D B2 (upd H2 B2 (.lst [])) H' ∧ ∃ ns : List Int, H' B2 = some (.lst (ns.map V.int)) ∧ ns.length = j ∧ ∀ e ∈ ns, 0 ≤ e ∧ e < m)
        ⟨GoB.start (g2.dr.same (Same.new hB2)), [], upd_same, rfl, fun _ hh => nomatch hh⟩ ?_ ?_
      · rintro j H3 hj ⟨g3, ns, h3, l3, o3⟩
        refine ⟨rfl, _, rfl, _, rfl, D, m, rfl, g3.dr, hm, fun x H4 x0 x1 g4 => ⟨_, g4.but B2 _ mb1 h3, small_line (by rw [List.length_map]; omega), (g3.go g4).put mb1 mb2, ns ++ [x], ?_, ?_, fun e he => ?_⟩⟩
        · rw [upd_same, List.map_append]
          rfl
        · rw [List.length_append, l3]
          rfl
        · rcases List.mem_append.mp he with q | q
          · exact o3 e q
          · rw [List.mem_singleton.mp q]
            exact ⟨x0, x1⟩
      · rintro H3 ⟨g3, ns, h3, l3, o3⟩
        have gg : Go D H2 H3 := GoB.end_ (Go.refl g2.dr) hB2 g3
        refine ⟨B2, _, rfl, .inl ⟨SqL.of h3, fun p hp2 => ?_⟩⟩
        have hB3 : H3 B = some (.lst xs) := gg.but B _ nb1 h2
        have pB : p ≠ B := (ne_of_none hB3 hp2).symm
        have pH : upd H1 B (.lst []) p = none := (g2.go gg).free ⟨_, hB3⟩ hp2
        have g5 : GoB D B H2 (upd (upd H3 p (.tup (ns.map V.int))) B (.lst (xs ++ [.ref p]))) := (gg.b.new hp2).put nb1 nb2
        have ra : RowAt (Nw (upd H1 B (.lst [])) (upd (upd H3 p (.tup (ns.map V.int))) B (.lst (xs ++ [.ref p])))) (.ref p) ns := ⟨p, rfl, by rw [Nw.of pH, upd_ne pB, upd_same]⟩
        refine ⟨xs, (by rw [upd_ne pB.symm]; exact hB3), small_line (by rw [pd_len p2]; omega), g2.trans g5, xs ++ [.ref p], tb ++ [ns], upd_same, pd_app ra (pd_mono (fun _ _ => RowAt.mono (g5.nw some_upd hDb.nn)) p2), ?_, fun row hrow => ?_⟩
        · rw [List.length_append, l2]
          rfl
        · rcases List.mem_append.mp hrow with q | q
          · exact o2 row q
          · rw [List.mem_singleton.mp q]
            exact ⟨l3, o3⟩
    · rintro H2 ⟨g2, xs, tb, h2, p2, l2, o2⟩
      have okT : OkT m tb := ⟨by omega, by omega, by omega, fun row hrow => ⟨by rw [(o2 row hrow).1, l2], (o2 row hrow).2⟩⟩
      have gF : Go D H H2 := GoB.end_ g1 hB g2
      have pF : Paired (RowAt (Nw H H2)) xs tb := pd_mono (fun _ _ => RowAt.mono (Nw.lift fun b hb => g1.free (none_upd hB b hb))) p2
      -- _law_a, _law_b
      refine ⟨_, rfl, t, 1, rfl, rfl, _, rfl, D, rfl, g2.dr, fun a H3 a0 a1 g3 => ⟨_, rfl, nc, 1, rfl, rfl, a, _, rfl, rfl, (by show (0 : Int) < (nc : Int) - 1; omega), _, _, rfl, rfl, _, rfl, _, nc, rfl, rfl, (by show (0 : Int) < nc; omega), ?_⟩⟩
      have y0 : 0 ≤ a % ((nc : Int) - 1) := Int.emod_nonneg _ (by omega)
      have y1 : a % ((nc : Int) - 1) < (nc : Int) - 1 := Int.emod_lt_of_pos _ (by omega)
      obtain ⟨k, hk⟩ : ∃ k : Nat, a % ((nc : Int) - 1) = (k : Int) := ⟨(a % ((nc : Int) - 1)).toNat, by omega⟩
      have m1 := mod_add1 (t := t) (k := k) (n := nc) (by omega) ht (by omega)
      have ev : ((t : Int) + 1 + a % ((nc : Int) - 1)) % (nc : Int) = (((t + 1 + k) % nc : Nat) : Int) := by
        rw [hk, Int.natCast_emod]
        rfl
      have m2 := mod_add1 (t := t) (k := 0) (n := nc) (by omega) ht (by omega)
      have ev2 : ((t : Int) + 1) % (nc : Int) = (((t + 1 + 0) % nc : Nat) : Int) := by
        rw [Int.natCast_emod]
        rfl
      have m3 := mod_add1 (t := t) (k := 1) (n := nc) (by omega) ht (by omega)
      have ev3 : ((t : Int) + 2) % (nc : Int) = (((t + 1 + 1) % nc : Nat) : Int) := by
        rw [Int.natCast_emod]
        rfl
      have h3 : H3 B = some (.lst xs) := g3.but B _ nb1 h2
      have p3 : Paired (RowAt (Nw H H3)) xs tb := pd_mono (fun _ _ => RowAt.mono (Nw.go hD g3)) pF
      refine ⟨_, rfl, t, 1, rfl, rfl, _, rfl, _, nc, rfl, rfl, (by show (0 : Int) < nc; omega), ?_⟩
      refine ⟨_, rfl, _, rfl, rfl, _, rfl, ifb (fun hc => ?_) fun hc => ?_⟩
      · refine ⟨_, rfl, t, 2, rfl, rfl, _, rfl, _, nc, rfl, rfl, (by show (0 : Int) < nc; omega), rfl, 1 + z, B, none, none, (t + 1 + k) % nc, (t + 1 + 1) % nc, xs, tb, ?_, m1.1, m3.1, m1.2.symm, m3.2.symm, fun e => ?_, gF.trans g3, nb1, h3, p3, okT⟩
        · rw [← ev, ← ev3]
          rfl
        · have q : V.int (((t : Int) + 1 + a % ((nc : Int) - 1)) % (nc : Int)) = V.int (((t : Int) + 1) % (nc : Int)) := of_decide_eq_true hc
          have q2 := V.int.inj q
          rw [ev, ev2] at q2
          have q3 : (t + 1 + k) % nc = (t + 1 + 0) % nc := by omega
          rw [q3] at e
          by_cases c : t + 2 < nc
          · rw [Nat.mod_eq_of_lt (show t + 1 + 0 < nc by omega), Nat.mod_eq_of_lt (show t + 1 + 1 < nc by omega)] at e
            omega
          · by_cases c2 : t + 1 < nc
            · rw [Nat.mod_eq_of_lt (show t + 1 + 0 < nc by omega), Nat.mod_eq_sub_mod (show nc ≤ t + 1 + 1 by omega), Nat.mod_eq_of_lt (show t + 1 + 1 - nc < nc by omega)] at e
              omega
            · rw [Nat.mod_eq_sub_mod (show nc ≤ t + 1 + 0 by omega), Nat.mod_eq_of_lt (show t + 1 + 0 - nc < nc by omega), Nat.mod_eq_sub_mod (show nc ≤ t + 1 + 1 by omega), Nat.mod_eq_of_lt (show t + 1 + 1 - nc < nc by omega)] at e
              omega
      · refine ⟨rfl, 1 + z, B, none, none, (t + 1 + k) % nc, (t + 1 + 0) % nc, xs, tb, ?_, m1.1, m2.1, m1.2.symm, m2.2.symm, fun e => ?_, gF.trans g3, nb1, h3, p3, okT⟩
        · rw [← ev, ← ev2]
          rfl
        · have q : decide (V.int (((t : Int) + 1 + a % ((nc : Int) - 1)) % (nc : Int)) = V.int (((t : Int) + 1) % (nc : Int))) = true := decT (by rw [ev, ev2, e])
          have hc' : decide (V.int (((t : Int) + 1 + a % ((nc : Int) - 1)) % (nc : Int)) = V.int (((t : Int) + 1) % (nc : Int))) = false := hc
          rw [q] at hc'
          cases hc'
end
theorem not_erased {l : List Nat} (h : l.Nodup) {k y : Nat} (hk : l[k]? = some y) : y ∉ l.eraseIdx k := by
  induction l generalizing k with
  | nil => simp at hk
  | cons a r ih =>
    obtain ⟨ha, hr⟩ := List.nodup_cons.mp h
    match k, hk with
    | 0, hk =>
      have e : a = y := by simpa using hk
      subst e
      exact ha
    | k + 1, hk =>
      have hk' : r[k]? = some y := by simpa using hk
      intro hm
      rcases List.mem_cons.mp hm with e | e
      · subst e
        exact ha (List.mem_of_getElem? hk')
      · exact ih hr hk' e
theorem drawn_on {t l : List Nat} (h : (t ++ l).Nodup) {k y : Nat} (hk : l[k]? = some y) : ((t ++ [y]) ++ l.eraseIdx k).Nodup := by
  obtain ⟨h1, h2, h3⟩ := List.nodup_append.mp h
  have hy : y ∈ l := List.mem_of_getElem? hk
  refine List.nodup_append.mpr ⟨List.nodup_append.mpr ⟨h1, List.nodup_cons.mpr ⟨List.not_mem_nil, List.nodup_nil⟩, fun a ha b hb => ?_⟩, h2.sublist (List.eraseIdx_sublist l k), fun a ha b hb => ?_⟩
  · rw [List.mem_singleton.mp hb]
    exact h3 a ha y hy
  · rcases List.mem_append.mp ha with q | q
    · exact h3 a q b (List.mem_of_mem_eraseIdx hb)
    · rw [List.mem_singleton.mp q]
      intro e
      subst e
      exact not_erased h2 hk hb
theorem er_map {α β : Type} (f : α → β) : ∀ (l : List α) (k : Nat), (l.map f).eraseIdx k = (l.eraseIdx k).map f
  | [], _ => rfl
  | _ :: _, 0 => rfl
  | a :: r, k + 1 => by
    show f a :: (r.map f).eraseIdx k = f a :: (r.eraseIdx k).map f
    rw [er_map f r k]
theorem seqIx {k n : Nat} (h : k < n) : seqIndex? (k : Int) n = some k := by
  unfold seqIndex?
  have h1 : ¬ (k : Int) < 0 := by omega
  simp only [if_neg h1]
  have h2 : ((k : Int) < (n : Int)) := by omega
  simp [h2]
section
variable {P : Program} {w : World} {K : PySem.W.Frag} {mg : Str → Option Value} {base : Heap}
def spLStep : Sp := fun vs H Q _ => ∃ (D : DS) (m : Int) (nc ni : Nat), vs = [.ref D.d, .int m, .int nc, .int ni] ∧ Dr D H ∧ 1 ≤ nc ∧ 2 ≤ m ∧
  ∀ (v : V) (x : Stp) (H' : Hp), Go D H H' → StpAt (Nw H H') v x → OkS m nc ni x → Q v H'
abbrev N_LStep : List Str := ["_law_draws", "_law_modulus_here", "_law_cells", "_law_inputs", "_law_target", "_law_pick", "_law_unit"]
theorem sc_LStep : FnScope N_LStep ["_law_draws", "_law_modulus_here", "_law_cells", "_law_inputs"] (defScope sLStep) := ⟨rfl, rfl, rfl, by decide +kernel, rfl, by decide +kernel, by decide +kernel⟩
theorem ok_LStep (T : Top K mg) : FnOk P w K mg base CX0 5 T.LStep.f T.LStep.fd ["_law_draws", "_law_modulus_here", "_law_cells", "_law_inputs"] spLStep := by
  refine T.LStep.F.ok sc_LStep (fun vs H Q E h => ?_) (fun cdv A outer s H vs Q E hr h => ?_)
  · obtain ⟨D, m, nc, ni, rfl, _⟩ := h
    rfl
  · obtain ⟨D, m, nc, ni, rfl, hD, hnc, hm, kk⟩ := h
    refine ⟨_, (pss_cons (ps_set (i := 4) sc_LStep.nd rfl (Or.inl rfl) (pe_op op_mod (pe_call (ok_LDraw T) (hr.mono (by decide)) rfl T.LDraw.g T.LDraw.kp T.LDraw.b .nil pass0 (pa_cons (pv 0) pa_nil)) (pv 2)))
      (pss_cons (ps_set (i := 5) sc_LStep.nd rfl (Or.inl rfl) (pe_op op_mod (pe_call (ok_LDraw T) (hr.mono (by decide)) rfl T.LDraw.g T.LDraw.kp T.LDraw.b .nil pass0 (pa_cons (pv 0) pa_nil)) pe_int))
      (pss_cons (ps_if (PT.weak (t' := fun σ H' Qb => ∃ (t : Nat) (pk : Int), σ = [some (.ref D.d), some (.int m), some (.int nc), some (.int ni), some (.int t), some (.int pk), none] ∧ t < nc ∧ ∀ b, (b = true → 2 ≤ nc) → Qb b H') (PW.pt (pw_and (pt_cmpR op_eq (pv 5) pe_int (nomark _)) (pw_and1 (pt_cmpR op_gt (pv 2) pe_int (nomark _))))) (by
        rintro σ H' Qb ⟨t, pk, rfl, ht, q⟩
        refine ⟨_, rfl, rfl, _, rfl, ifb (fun c1 => ?_) fun c1 => q false (fun z => nomatch z)⟩
        exact ⟨_, rfl, nc, 1, rfl, rfl, _, rfl, q _ (fun c => by have := of_decide_eq_true c; omega)⟩)) (pss_one (ps_ret (pe_tup (pa_cons pe_str (pa_cons (pv 4) (pa_cons (pe_op op_mod (pe_op op_add (pe_op op_add (pv 4) pe_int) (pe_op op_mod (pe_call (ok_LDraw T) (hr.mono (by decide)) rfl T.LDraw.g T.LDraw.kp T.LDraw.b .nil pass0 (pa_cons (pv 0) pa_nil)) (pe_op op_sub (pv 2) pe_int))) (pv 2)) pa_nil)))))) pss_nil)
      (pss_cons (ps_if (pt_cmpR op_eq (pv 5) pe_int (nomark _)) (pss_cons (ps_set (i := 6) sc_LStep.nd rfl (Or.inl rfl) (pe_call (ok_LNumber T) (hr.mono (by decide)) rfl T.LNumber.g T.LNumber.kp T.LNumber.b .nil pass0 (pa_cons (pv 0) (pa_cons (pv 1) pa_nil))))
          (pss_one (ps_if (pt_cmpR op_eq (pe_call (ok_LGcd T) (hr.mono (by decide)) rfl T.LGcd.g T.LGcd.kp T.LGcd.b .nil pass0 (pa_cons (pv 1) (pa_cons (pv 6) pa_nil))) pe_int (nomark _)) (pss_one (ps_ret (pe_tup (pa_cons pe_str (pa_cons (pv 4) (pa_cons (pv 6) pa_nil)))))) pss_nil))) pss_nil)
      (PSs.weak (t' := tailStep D m nc ni H Q) (pss_cons (ps_if (PT.weak (t' := fun σ H' Qb => ∃ (t : Nat) (pk : Int) (v6 : Option V), σ = [some (.ref D.d), some (.int m), some (.int nc), some (.int ni), some (.int t), some (.int pk), v6] ∧ ∀ b H'', Same H' H'' → (b = true → 3 ≤ nc ∧ Pr m) → Qb b H'') (PW.pt (pw_and (pt_cmpR op_lt (pv 5) pe_int (nomark _)) (pw_and (pt_cmpR op_gt (pv 2) pe_int (nomark _)) (pw_and1 (pt_val (pe_call (ok_LIsPrime T) (hr.mono (by decide)) rfl T.LIsPrime.g T.LIsPrime.kp T.LIsPrime.b .nil pass0 (pa_cons (pv 1) pa_nil))))))) (by
        rintro σ H' Qb ⟨t, pk, v6, rfl, q⟩
        refine ⟨_, rfl, pk, 4, rfl, rfl, _, rfl, ifb (fun c1 => ?_) fun c1 => q false H' (Same.refl _) (fun z => nomatch z)⟩
        refine ⟨_, rfl, nc, 2, rfl, rfl, _, rfl, ifb (fun c2 => ?_) fun c2 => q false H' (Same.refl _) (fun z => nomatch z)⟩
        have hc : (2 : Int) < nc := of_decide_eq_true c2
        exact ⟨_, rfl, m, rfl, hm, fun b H'' hb s1 => ⟨b, rfl, q b H'' s1 (fun z => ⟨by omega, hb z⟩)⟩⟩)) (pss_one (ps_ret (pe_call (ok_LLook T) (hr.mono (by decide)) rfl T.LLook.g T.LLook.kp T.LLook.b .nil pass0 (pa_cons (pv 0) (pa_cons (pv 1) (pa_cons (pv 2) (pa_cons (pv 4) pa_nil))))))) pss_nil)
      (pss_one (ps_ret (pe_tup (pa_cons pe_str (pa_cons (pv 4) (pa_cons (pe_call (ok_LNumber T) (hr.mono (by decide)) rfl T.LNumber.g T.LNumber.kp T.LNumber.b .nil pass0 (pa_cons (pv 0) (pa_cons (pv 1) pa_nil))) (pa_cons (pe_call (ok_LFactors T) (hr.mono (by decide)) rfl T.LFactors.g T.LFactors.kp T.LFactors.b .nil pass0 (pa_cons (pv 0) (pa_cons (pv 2) (pa_cons (pv 3) (pa_cons (pv 4) pa_nil))))) pa_nil)))))))) (by
        rintro E' σ H' ⟨eE, t, pk, v6, rfl, ht, g⟩
        refine ⟨t, pk, v6, rfl, fun b H1 s1 hb => ifb (fun hbt => ?_) fun _ => ?_⟩
        · obtain ⟨h3, hp⟩ := hb hbt
          have g1 : Go D H H1 := g.trans ⟨g.dr.same s1, fun b o _ e => s1 b o e⟩
          refine ⟨_, rfl, _, rfl, _, rfl, _, rfl, D, m, nc, t, rfl, g1.dr, h3, ht, hp, fun v s tb a b H2 g2 hS ok => ?_⟩
          rw [show E'.rt = Q from eE]
          exact kk v _ H2 (g1.trans g2) (StpAt.mono (Nw.lift fun b hb => g1.free hb) hS) (ok ni)
        · have g1 : Go D H H1 := g.trans ⟨g.dr.same s1, fun b o _ e => s1 b o e⟩
          refine ⟨_, rfl, _, rfl, _, rfl, D, m, rfl, g1.dr, hm, fun c H2 c0 c1 g2 => ⟨_, rfl, _, rfl, _, rfl, _, rfl, D, nc, ni, t, rfl, g2.dr, ht, fun q xs fs H3 g3 hq hF l3 of => ⟨(by show 4 ≤ sizeLine; decide), fun p hp => ?_⟩⟩⟩
          have g13 := (g1.trans g2).trans g3
          have mono : Same (Nw H2 H3) (Nw H (upd H3 p (.tup [.str "add", .int t, .int c, .ref q]))) := fun b o e => Nw.mono (fun b o _ e => Same.new hp b o e) b o (Nw.lift (fun b hb => (g1.trans g2).free hb) b o e)
          rw [show E'.rt = Q from eE]
          exact kk (.ref p) (.add t c fs) _ (g13.new hp) ⟨p, q, xs, rfl, by rw [Nw.of (g13.free hp), upd_same], mono _ _ hq, pd_mono (fun _ _ => FacAt.mono mono) hF⟩ ⟨ht, c0, c1, l3, of⟩)))))), ?_⟩
    refine ⟨_, rfl, D, rfl, hD, fun a H1 a0 a1 g1 => ⟨_, rfl, a, nc, rfl, rfl, (by show (0 : Int) < nc; omega), ?_⟩⟩
    have t0 : 0 ≤ a % (nc : Int) := Int.emod_nonneg _ (by omega)
    have t1 : a % (nc : Int) < nc := Int.emod_lt_of_pos _ (by omega)
    obtain ⟨t, et⟩ : ∃ t : Nat, a % (nc : Int) = (t : Int) := ⟨(a % (nc : Int)).toNat, by omega⟩
    have ht : t < nc := by omega
    refine ⟨_, rfl, D, rfl, g1.dr, fun b H2 b0 b1 g2 => ⟨b, 8, rfl, rfl, (by show (0 : Int) < 8; decide), ?_⟩⟩
    have g12 := g1.trans g2
    dsimp only
    rw [et]
    generalize b % 8 = pk
    refine ⟨t, pk, rfl, ht, fun bb hbb => ifb (fun hb => ?_) fun _ => ?_⟩
    · have hnc2 := hbb hb
      refine ⟨_, rfl, _, rfl, t, 1, rfl, rfl, _, rfl, D, rfl, g12.dr, fun c H3 c0 c1 g3 => ⟨_, rfl, nc, 1, rfl, rfl, c, _, rfl, rfl, (by show (0 : Int) < (nc : Int) - 1; omega), _, _, rfl, rfl, _, rfl, _, nc, rfl, rfl, (by show (0 : Int) < nc; omega), (by show 3 ≤ sizeLine; decide), fun p hp => ?_⟩⟩
      have y0 : 0 ≤ c % ((nc : Int) - 1) := Int.emod_nonneg _ (by omega)
      have y1 : c % ((nc : Int) - 1) < (nc : Int) - 1 := Int.emod_lt_of_pos _ (by omega)
      obtain ⟨k, hk⟩ : ∃ k : Nat, c % ((nc : Int) - 1) = (k : Int) := ⟨(c % ((nc : Int) - 1)).toNat, by omega⟩
      have m1 := mod_add1 (t := t) (k := k) (n := nc) (by omega) ht (by omega)
      have ev : ((t : Int) + 1 + c % ((nc : Int) - 1)) % (nc : Int) = (((t + 1 + k) % nc : Nat) : Int) := by
        rw [hk, Int.natCast_emod]
        rfl
      have g13 := g12.trans g3
      refine kk (.ref p) (.swap t ((t + 1 + k) % nc)) _ (g13.new hp) ⟨p, rfl, ?_⟩ ⟨ht, m1.1, m1.2.symm⟩
      rw [Nw.of (g13.free hp), upd_same, ← ev]
    · refine ⟨_, rfl, rfl, _, rfl, ifb (fun _ => ?_) fun _ => ⟨rfl, t, pk, none, rfl, ht, g12⟩⟩
      refine ⟨_, rfl, _, rfl, D, m, rfl, g12.dr, hm, fun u H3 u0 u1 g3 => ?_⟩
      refine ⟨_, rfl, _, rfl, m, u, rfl, hm, u0, fun r hr1 => ⟨rfl, _, rfl, ifb (fun hc => ?_) fun _ => ⟨rfl, t, pk, _, rfl, ht, g12.trans g3⟩⟩⟩
      have hi : HasInv u m := hr1 (V.int.inj (of_decide_eq_true hc))
      refine ⟨_, rfl, _, rfl, (by show 3 ≤ sizeLine; decide), fun p hp => ?_⟩
      have g13 := g12.trans g3
      exact kk (.ref p) (.scale t u) _ (g13.new hp) ⟨p, rfl, by rw [Nw.of (g13.free hp), upd_same]⟩ ⟨ht, u0, u1, hi⟩
def spLPlaces : Sp := fun vs H Q _ => ∃ (D : DS) (n k : Nat), vs = [.ref D.d, .int n, .int k] ∧ Dr D H ∧ k ≤ n ∧ n ≤ 200 ∧
  ∀ (p : Addr) (ps : List Nat) (H' : Hp), Go D H H' → Nw H H' p = some (.lst (ps.map nV)) → ps.length = k → ps.Nodup → (∀ x ∈ ps, x < n) → Q (.ref p) H'
abbrev N_LPlaces : List Str := ["_law_draws", "_law_size_here", "_law_cells", "_law_left", "_law_k"]
theorem sc_LPlaces : FnScope N_LPlaces ["_law_draws", "_law_size_here", "_law_cells"] (defScope sLPlaces) := ⟨rfl, rfl, rfl, by decide +kernel, rfl, by decide +kernel, by decide +kernel⟩
theorem ok_LPlaces (T : Top K mg) : FnOk P w K mg base CX0 3 T.LPlaces.f T.LPlaces.fd ["_law_draws", "_law_size_here", "_law_cells"] spLPlaces := by
  refine T.LPlaces.F.ok sc_LPlaces (fun vs H Q E h => ?_) (fun cdv A outer s H vs Q E hr h => ?_)
  · obtain ⟨D, n, k, rfl, _⟩ := h
    rfl
  · obtain ⟨D, n, k, rfl, hD, hkn, hn, kk⟩ := h
    refine ⟨_, (pss_cons (ps_set (i := 3) sc_LPlaces.nd rfl (Or.inr rfl) (pe_lc (own := [("_law_k", 4)]) (g := (gName 4)) (tt := tYes) rfl sc_LPlaces.nd (pi_range1 rfl T.zrange (pa_cons (pv 1) pa_nil)) (blkOk_by (N := N_LPlaces) (sc := defScope sLPlaces) (own := [("_law_k", 4)]) (by decide +kernel)) (fun _ _ _ _ _ => (pg_name (i := 4) sc_LPlaces.nd rfl (Or.inl rfl))) (fun _ _ _ _ _ => pts_nil) (fun _ _ _ _ _ => (pv 4))))
      (pss_one (ps_ret (pe_lc (own := [("_law_k", 4)]) (g := (gName 4)) (tt := tYes) (te := tBM K "list" rPopAt (tVar 3) (tCons (tOp (rI (fun _ j => 0 < j) fun i j => .int (i % j)) (tCall spLDraw [] E0 (tCons (tVar 0) tNil)) (tCB (rLenOf K) (tCons (tVar 3) tNil))) tNil)) rfl sc_LPlaces.nd (pi_range1 rfl T.zrange (pa_cons (pv 2) pa_nil)) (blkOk_by (N := N_LPlaces) (sc := defScope sLPlaces) (own := [("_law_k", 4)]) (by decide +kernel)) (fun _ _ _ _ _ => (pg_name (i := 4) sc_LPlaces.nd rfl (Or.inl rfl))) (fun _ _ _ _ _ => pts_nil) (fun _ _ _ _ _ => (pe_bm PySem.F.plainAttrs_list PySem.F.slot_list_pop PySem.F.type_list_pop mt_popAt (pv 3) (pa_cons (pe_op op_mod (pe_call (ok_LDraw T) (hr.mono (by decide)) rfl T.LDraw.g T.LDraw.kp T.LDraw.b .nil pass0 (pa_cons (pv 0) pa_nil)) (pe_callB call_len_seq rfl T.zlen (by decide +kernel) (pa_cons (pv 3) pa_nil))) pa_nil))))))), ?_⟩
    refine ⟨_, rfl, n, rfl, by omega, by omega, fun B1 hB1 => ?_⟩
    refine lc_range (lo := 0) (n := n) (fun i H' => Go D H H' ∧ H' B1 = some (.lst ((List.range i).map nV))) ⟨(Go.refl hD).new hB1, upd_same⟩ ?_ ?_
    · rintro i H1 hi ⟨g1, h1⟩
      refine ⟨rfl, _, rfl, _, h1, small_line (by rw [List.length_map, List.length_range]; omega), g1.rewr hD hB1, ?_⟩
      rw [upd_same, List.range_succ, List.map_append]
      simp [nV]
    · rintro H1 ⟨g1, h1⟩
      refine ⟨_, rfl, k, rfl, by omega, by omega, fun B2 hB2 => ?_⟩
      have q2 : H B2 = none := g1.free hB2
      have n12 : B1 ≠ B2 := ne_of_none h1 hB2
      obtain ⟨nb1, _⟩ := hD.apart hB1
      obtain ⟨nb2, _⟩ := hD.apart q2
      refine lc_range (lo := 0) (n := k) (fun i H' => Go D H H' ∧ ∃ (ts ls : List Nat), H' B1 = some (.lst (ls.map nV)) ∧ H' B2 = some (.lst (ts.map nV)) ∧ ts.length = i ∧ ls.length + i = n ∧ (ts ++ ls).Nodup ∧ ∀ x ∈ ts ++ ls, x < n)
        ⟨g1.new hB2, [], List.range n, by rw [upd_ne n12]; exact h1, upd_same, rfl, by rw [List.length_range]; rfl, List.nodup_range, fun x hx => List.mem_range.mp hx⟩ ?_ ?_
      · rintro i H2 hi ⟨g2, ts, ls, hL, hT, l1, l2, nd, lt⟩
        refine ⟨rfl, _, rfl, .inl ⟨rfl, _, SqL.of hL⟩, _, rfl, D, rfl, g2.dr, fun a H3 a0 a1 g3 => ⟨_, rfl, B1, _, rfl, .inl (SqL.of (g3.but B1 _ nb1 hL)), a, _, rfl, rfl, ?_, ?_⟩⟩
        · show (0 : Int) < ((ls.map nV).length : Nat)
          rw [List.length_map]
          omega
        · have hlen : ((ls.map nV).length : Int) = (ls.length : Int) := by rw [List.length_map]
          have z0 : 0 ≤ a % (ls.length : Int) := Int.emod_nonneg _ (by omega)
          have z1 : a % (ls.length : Int) < ls.length := Int.emod_lt_of_pos _ (by omega)
          obtain ⟨j, hj⟩ : ∃ j : Nat, a % (ls.length : Int) = (j : Int) := ⟨(a % (ls.length : Int)).toNat, by omega⟩
          have jl : j < ls.length := by omega
          obtain ⟨y, hy⟩ : ∃ y, ls[j]? = some y := ⟨_, List.getElem?_eq_getElem jl⟩
          have hT3 : H3 B2 = some (.lst (ts.map nV)) := g3.but B2 _ nb2 hT
          have hj' : a % ((ls.map nV).length : Int) = (j : Int) := by rw [hlen, hj]
          refine ⟨B1, ls.map nV, a % ((ls.map nV).length : Int), j, nV y, rfl, rfl, g3.but B1 _ nb1 hL, by rw [hj']; omega, by rw [hj']; omega, by rw [hj']; exact seqIx (by rw [List.length_map]; exact jl), by rw [List.getElem?_map, hy]; rfl, ?_⟩
          refine ⟨ts.map nV, by rw [upd_ne n12.symm]; exact hT3, small_line (by rw [List.length_map]; omega), ((g2.trans g3).rewr hD hB1).rewr hD q2, ts ++ [y], ls.eraseIdx j, ?_, ?_, ?_, ?_, drawn_on nd hy, fun x hx => ?_⟩
          · rw [upd_ne n12, upd_same, er_map]
          · rw [upd_same, List.map_append]
            rfl
          · rw [List.length_append, l1]
            rfl
          · rw [List.length_eraseIdx, if_pos jl]
            omega
          · refine lt x ?_
            rcases List.mem_append.mp hx with q | q
            · rcases List.mem_append.mp q with q | q
              · exact List.mem_append_left _ q
              · rw [List.mem_singleton.mp q]
                exact List.mem_append_right _ (List.mem_of_getElem? hy)
            · exact List.mem_append_right _ (List.mem_of_mem_eraseIdx q)
      · rintro H2 ⟨g2, ts, ls, hL, hT, l1, l2, nd, lt⟩
        refine kk B2 ts H2 g2 (by rw [Nw.of q2]; exact hT) l1 (List.nodup_append.mp nd).1 fun x hx => lt x (List.mem_append_left _ hx)
def spLLoan : Sp := fun vs H Q _ => ∃ (D : DS) (m : Int) (n : Nat), vs = [.ref D.d, .int m, .int n] ∧ Dr D H ∧ 2 ≤ m ∧ 1 ≤ n ∧ n ≤ 200 ∧
  ∀ (p l : Addr) (nc ni : Nat) (x y : V) (xs : List V) (ss : List Stp) (H' : Hp), Go D H H' → Nw H H' p = some (.lst [.int nc, .int ni, .ref l, x, y]) → Nw H H' l = some (.lst xs) → Paired (StpAt (Nw H H')) xs ss →
    (∀ s ∈ ss, OkS m nc ni s) → 1 ≤ nc → nc ≤ 5 → nc ≤ n → ni ≤ 2 → ss.length ≤ 7 → Q (.ref p) H'
abbrev N_LLoan : List Str := ["_law_draws", "_law_modulus_here", "_law_size_here", "_law_cells", "_law_inputs", "_law_steps", "_law_k", "_law_given"]
theorem sc_LLoan : FnScope N_LLoan ["_law_draws", "_law_modulus_here", "_law_size_here"] (defScope sLLoan) := ⟨rfl, rfl, rfl, by decide +kernel, rfl, by decide +kernel, by decide +kernel⟩
theorem ok_LLoan (T : Top K mg) : FnOk P w K mg base CX0 6 T.LLoan.f T.LLoan.fd ["_law_draws", "_law_modulus_here", "_law_size_here"] spLLoan := by
  refine T.LLoan.F.ok sc_LLoan (fun vs H Q E h => ?_) (fun cdv A outer s H vs Q E hr h => ?_)
  · obtain ⟨D, m, n, rfl, _⟩ := h
    rfl
  · obtain ⟨D, m, n, rfl, hD, hm, hn1, hn, kk⟩ := h
    refine ⟨_, (pss_cons (ps_set (i := 3) sc_LLoan.nd rfl (Or.inr rfl) (pe_op op_add pe_int (pe_op op_mod (pe_call (ok_LDraw T) (hr.mono (by decide)) rfl T.LDraw.g T.LDraw.kp T.LDraw.b .nil pass0 (pa_cons (pv 0) pa_nil)) (pe_callB (call_min2 rfl) rfl T.zmin (by decide +kernel) (pa_cons pe_int (pa_cons (pv 2) pa_nil))))))
      (pss_cons (ps_set (i := 4) sc_LLoan.nd rfl (Or.inr rfl) (pe_op op_mod (pe_call (ok_LDraw T) (hr.mono (by decide)) rfl T.LDraw.g T.LDraw.kp T.LDraw.b .nil pass0 (pa_cons (pv 0) pa_nil)) pe_int))
      (pss_cons (ps_setLc (i := 5) (own := [("_law_k", 6)]) (g := (gName 6)) (tt := tYes) rfl sc_LLoan.nd rfl rfl (sw_true rfl rfl rfl (by decide +kernel)) (pi_range1 rfl T.zrange (pa_cons (pe_op op_mod (pe_call (ok_LDraw T) (hr.mono (by decide)) rfl T.LDraw.g T.LDraw.kp T.LDraw.b .nil pass0 (pa_cons (pv 0) pa_nil)) pe_int) pa_nil)) (blkOk_by (N := N_LLoan) (sc := defScope sLLoan) (own := [("_law_k", 6)]) (by decide +kernel)) (fun _ _ _ _ _ => (pg_name (i := 6) sc_LLoan.nd rfl (Or.inl rfl))) (fun _ _ _ _ _ => pts_nil) (fun _ _ _ _ _ => (pe_call (ok_LStep T) (hr.mono (by decide)) rfl T.LStep.g T.LStep.kp T.LStep.b .nil pass0 (pa_cons (pv 0) (pa_cons (pv 1) (pa_cons (pv 3) (pa_cons (pv 4) pa_nil)))))))
      (pss_cons (ps_setLc (i := 7) (own := [("_law_k", 6)]) (g := (gName 6)) (tt := tYes) rfl sc_LLoan.nd rfl rfl (sw_true rfl rfl rfl (by decide +kernel)) (pi_range1 rfl T.zrange (pa_cons (pv 4) pa_nil)) (blkOk_by (N := N_LLoan) (sc := defScope sLLoan) (own := [("_law_k", 6)]) (by decide +kernel)) (fun _ _ _ _ _ => (pg_name (i := 6) sc_LLoan.nd rfl (Or.inl rfl))) (fun _ _ _ _ _ => pts_nil) (fun _ _ _ _ _ => (pe_call (ok_LNumber T) (hr.mono (by decide)) rfl T.LNumber.g T.LNumber.kp T.LNumber.b .nil pass0 (pa_cons (pv 0) (pa_cons (pv 1) pa_nil)))))
      (pss_one (ps_ret (pe_lst (pa_cons (pv 3) (pa_cons (pv 4) (pa_cons (pv 5) (pa_cons (pe_call (ok_LPlaces T) (hr.mono (by decide)) rfl T.LPlaces.g T.LPlaces.kp T.LPlaces.b .nil pass0 (pa_cons (pv 0) (pa_cons (pv 2) (pa_cons (pv 3) pa_nil)))) (pa_cons (pv 7) pa_nil)))))))))))), ?_⟩
    refine ⟨_, rfl, D, rfl, hD, fun r H1 r0 r1 g1 => ⟨_, rfl, 5, n, rfl, r, _, rfl, rfl, (by show (0 : Int) < if (n : Int) < 5 then (n : Int) else 5; split <;> omega), 1, _, rfl, rfl, ?_⟩⟩
    have z0 : 0 ≤ r % (if (n : Int) < 5 then (n : Int) else 5) := Int.emod_nonneg _ (by split <;> omega)
    have z1 : r % (if (n : Int) < 5 then (n : Int) else 5) < (if (n : Int) < 5 then (n : Int) else 5) := Int.emod_lt_of_pos _ (by split <;> omega)
    have z2 : (if (n : Int) < 5 then (n : Int) else 5) ≤ 5 := by split <;> omega
    have z3 : (if (n : Int) < 5 then (n : Int) else 5) ≤ (n : Int) := by split <;> omega
    obtain ⟨nc, enc⟩ : ∃ nc : Nat, 1 + r % (if (n : Int) < 5 then (n : Int) else 5) = (nc : Int) := ⟨(1 + r % (if (n : Int) < 5 then (n : Int) else 5)).toNat, by omega⟩
    dsimp only
    rw [enc]
    have c1 : 1 ≤ nc := by omega
    have c5 : nc ≤ 5 := by omega
    have cn : nc ≤ n := by omega
    refine ⟨_, rfl, D, rfl, g1.dr, fun a H2 a0 a1 g2 => ⟨a, 3, rfl, rfl, (by show (0 : Int) < 3; decide), ?_⟩⟩
    obtain ⟨ni, eni⟩ : ∃ ni : Nat, a % 3 = (ni : Int) := ⟨(a % 3).toNat, by omega⟩
    dsimp only
    rw [eni]
    have i2 : ni ≤ 2 := by omega
    have g12 := g1.trans g2
    -- steps
    refine ⟨_, rfl, D, rfl, g12.dr, fun b H3 b0 b1 g3 => ⟨b, 8, rfl, rfl, (by show (0 : Int) < 8; decide), b % 8, rfl, by omega, by omega, fun B hB => ?_⟩⟩
    have g13 := g12.trans g3
    obtain ⟨nb1, nb2⟩ := g13.dr.apart hB
    have hDb : Dr D (upd H3 B (.lst [])) := g13.dr.same (Same.new hB)
    refine lc_range (lo := 0) (n := (b % 8).toNat) (fun i H' => GoB D B (upd H3 B (.lst [])) H' ∧ ∃ (xs : List V) (ss : List Stp), H' B = some (.lst xs) ∧ Paired (StpAt (Nw (upd H3 B (.lst [])) H')) xs ss ∧ ss.length = i ∧ ∀ s ∈ ss, OkS m nc ni s)
      ⟨GoB.start hDb, [], [], upd_same, .nil, rfl, fun _ hh => nomatch hh⟩ ?_ ?_
    · rintro i H4 hi ⟨g4, xs, ss, h4, p4, l4, o4⟩
      refine ⟨rfl, _, rfl, _, rfl, _, rfl, _, rfl, D, m, nc, ni, rfl, g4.dr, c1, hm, fun v x H5 g5 hS ox => ⟨xs, g5.but B _ nb1 h4, small_line (by rw [pd_len p4]; omega), (g4.go g5).put nb1 nb2, xs ++ [v], ss ++ [x], upd_same, ?_, ?_, fun s hs => ?_⟩⟩
      · have gp : GoB D B H4 (upd H5 B (.lst (xs ++ [v]))) := g5.b.put nb1 nb2
        refine pd_app ?_ (pd_mono (fun _ _ => StpAt.mono (gp.nw some_upd hDb.nn)) p4)
        refine StpAt.mono (H := Nw H4 H5) ?_ hS
        intro c o e
        have hc4 : H4 c = none := by
          unfold Nw at e
          cases q : H4 c with
          | none => rfl
          | some u => rw [q] at e; cases e
        have cB : c ≠ B := fun z => by rw [z, h4] at hc4; cases hc4
        rw [Nw.of (g4.free ⟨_, h4⟩ hc4), upd_ne cB]
        exact Nw.same _ _ e
      · rw [List.length_append, l4]
        rfl
      · rcases List.mem_append.mp hs with q | q
        · exact o4 s q
        · rw [List.mem_singleton.mp q]
          exact ox
    · rintro H4 ⟨g4, xs, ss, h4, p4, l4, o4⟩
      have g14 : Go D H H4 := GoB.end_ g13 hB g4
      have pF : Paired (StpAt (Nw H H4)) xs ss := pd_mono (fun _ _ => StpAt.mono (Nw.lift fun b hb => g13.free (none_upd hB b hb))) p4
      -- given
      refine ⟨_, rfl, ni, rfl, by omega, by omega, fun G hG => ?_⟩
      refine lc_range (lo := 0) (n := ni) (fun i H' => GoB D G (upd H4 G (.lst [])) H' ∧ ∃ ys : List V, H' G = some (.lst ys) ∧ ys.length = i) ⟨GoB.start (g14.dr.same (Same.new hG)), [], upd_same, rfl⟩ ?_ ?_
      · rintro i H5 hi ⟨g5, ys, h5, l5⟩
        obtain ⟨ng1, ng2⟩ := g14.dr.apart hG
        refine ⟨rfl, _, rfl, _, rfl, D, m, rfl, g5.dr, hm, fun z H6 _ _ g6 => ⟨ys, g6.but G _ ng1 h5, small_line (by omega), (g5.go g6).put ng1 ng2, _, upd_same, ?_⟩⟩
        rw [List.length_append, l5]
        rfl
      · rintro H5 ⟨g5, ys, h5, l5⟩
        have g45 : Go D H4 H5 := GoB.end_ (Go.refl g14.dr) hG g5
        -- [cells, inputs, steps, places, given]
        refine ⟨_, rfl, _, rfl, _, rfl, _, rfl, _, rfl, _, rfl, D, n, nc, rfl, g45.dr, cn, hn, fun pl ps H6 g6 _ _ _ _ => ⟨_, rfl, (by show 5 ≤ sizeLine; decide), fun p hp => ?_⟩⟩
        have g46 := g45.trans g6
        have g16 := g14.trans g46
        have mono : Same (Nw H H4) (Nw H (upd H6 p (.lst [.int nc, .int ni, .ref B, .ref pl, .ref G]))) := Nw.mono fun b o h0 e => by
          have nd : b ≠ D.d := fun z => hD.nn (by rw [← z]; exact h0)
          exact Same.new hp _ _ (g46.but b o nd e)
        have hBH : H B = none := g13.free hB
        refine kk p B nc ni (.ref pl) (.ref G) xs ss _ (g16.new hp) (by rw [Nw.of (g16.free hp), upd_same]) (mono _ _ (by rw [Nw.of hBH]; exact h4)) (pd_mono (fun _ _ => StpAt.mono mono) pF) o4 c1 c5 cn i2 (by omega)
end
/-! ### taking back: the plain law -/
theorem zipfold_ne {k : Nat} : ∀ {q : List (Nat × Int)} {M : List Int}, (∀ a ∈ q, a.1 ≠ k) → (q.foldl (fun M q => M.set q.1 q.2) M)[k]? = M[k]?
  | [], _, _ => rfl
  | a :: r, M, h => by
    show (r.foldl _ (M.set a.1 a.2))[k]? = M[k]?
    rw [zipfold_ne fun b hb => h b (List.mem_cons_of_mem _ hb), List.getElem?_set_ne (h a List.mem_cons_self)]
theorem sct_ne {pl : List Nat} {vs M : List Int} {k : Nat} (h : k ∉ pl) : (sct pl vs M)[k]? = M[k]? :=
  zipfold_ne fun a ha e => h (by rw [← e]; exact (List.of_mem_zip ha).1)
theorem sct_at : ∀ {pl : List Nat} {vs M : List Int} {i p : Nat} {z : Int}, pl.Nodup → pl[i]? = some p → vs[i]? = some z → p < M.length → (sct pl vs M)[p]? = some z
  | [], _, _, _, _, _, _, h, _, _ => by simp at h
  | _ :: _, [], _, _, _, _, _, _, h, _ => by simp at h
  | q :: pl, u :: vs, M, 0, p, z, hN, hp, hz, hl => by
    have e1 : q = p := by simpa using hp
    have e2 : u = z := by simpa using hz
    subst e1 e2
    show (sct pl vs (M.set q u))[q]? = some u
    rw [sct_ne (List.nodup_cons.mp hN).1, List.getElem?_set_self hl]
  | q :: pl, u :: vs, M, i + 1, p, z, hN, hp, hz, hl => by
    show (sct pl vs (M.set q u))[p]? = some z
    exact sct_at (i := i) (List.nodup_cons.mp hN).2 (by simpa using hp) (by simpa using hz) (by rw [List.length_set]; exact hl)
/-- the places of a loan among n cells -/
structure Plc (n : Nat) (pl : List Nat) : Prop where
  nd : pl.Nodup
  lt : ∀ p ∈ pl, p < n
theorem sct_eq {n : Nat} {pl : List Nat} (h : Plc n pl) {vs M : List Int} (hv : vs.length = pl.length) (hM : M.length = n) {p : Nat} (hp : p ∈ pl) : ∃ (i : Nat) (z : Int), pl[i]? = some p ∧ vs[i]? = some z ∧ (sct pl vs M)[p]? = some z := by
  obtain ⟨i, hi⟩ := List.getElem?_of_mem hp
  have hl : i < vs.length := by rw [hv]; exact (List.getElem?_eq_some_iff.mp hi).1
  exact ⟨i, vs[i], hi, List.getElem?_eq_getElem hl, sct_at h.nd hi (List.getElem?_eq_getElem hl) (by rw [hM]; exact h.lt p hp)⟩
theorem gat_sct {n : Nat} {pl : List Nat} (h : Plc n pl) {vs M : List Int} (hv : vs.length = pl.length) (hM : M.length = n) : gat pl (sct pl vs M) = vs := by
  apply List.ext_getElem?
  intro i
  unfold gat
  rw [List.getElem?_map]
  cases e : pl[i]? with
  | none =>
    have : pl.length ≤ i := List.getElem?_eq_none_iff.mp e
    rw [List.getElem?_eq_none (by omega)]
    rfl
  | some p =>
    have hl : i < vs.length := by rw [hv]; exact (List.getElem?_eq_some_iff.mp e).1
    have hp := List.mem_of_getElem? e
    show some ((sct pl vs M).getD p 0) = vs[i]?
    rw [List.getD_eq_getElem?_getD, sct_at h.nd e (List.getElem?_eq_getElem hl) (by rw [hM]; exact h.lt p hp), List.getElem?_eq_getElem hl]
    rfl
theorem gat_away {pl pl' : List Nat} {vs M : List Int} (hd : ∀ p ∈ pl, p ∉ pl') : gat pl (sct pl' vs M) = gat pl M := by
  unfold gat
  apply List.map_congr_left
  intro p hp
  rw [List.getD_eq_getElem?_getD, sct_ne (hd p hp), List.getD_eq_getElem?_getD]
theorem sct_back {n : Nat} {pl : List Nat} (h : Plc n pl) {vs M : List Int} (hM : M.length = n) : sct pl (gat pl M) (sct pl vs M) = M := by
  apply List.ext_getElem?
  intro k
  by_cases hk : k ∈ pl
  · obtain ⟨i, z, h1, h2, h3⟩ := sct_eq h (vs := gat pl M) (M := sct pl vs M) gat_len (by rw [sct_len]; exact hM) hk
    rw [h3]
    unfold gat at h2
    rw [List.getElem?_map, h1] at h2
    have hl : k < M.length := by rw [hM]; exact h.lt k hk
    have e : M.getD k 0 = z := Option.some.inj h2
    rw [← e, List.getD_eq_getElem?_getD, List.getElem?_eq_getElem hl]
    rfl
  · rw [sct_ne hk, sct_ne hk]
theorem sct_comm {n : Nat} {pl pl' : List Nat} (h : Plc n pl) (h' : Plc n pl') (hd : ∀ p ∈ pl', p ∉ pl) {vs vs' M : List Int} (hv : vs.length = pl.length) (hv' : vs'.length = pl'.length) (hM : M.length = n) : sct pl vs (sct pl' vs' M) = sct pl' vs' (sct pl vs M) := by
  apply List.ext_getElem?
  intro k
  by_cases hk : k ∈ pl
  · have hk' : k ∉ pl' := fun z => hd k z hk
    rw [sct_ne hk']
    obtain ⟨i, z, h1, h2, h3⟩ := sct_eq h hv (M := sct pl' vs' M) (by rw [sct_len]; exact hM) hk
    obtain ⟨j, y, g1, g2, g3⟩ := sct_eq h hv hM hk
    have e : i = j := nd_ix h.nd h1 g1
    subst e
    rw [h3, g3, ← h2, ← g2]
  · rw [sct_ne hk]
    by_cases hk' : k ∈ pl'
    · obtain ⟨i, z, h1, h2, h3⟩ := sct_eq h' hv' (M := sct pl vs M) (by rw [sct_len]; exact hM) hk'
      obtain ⟨j, y, g1, g2, g3⟩ := sct_eq h' hv' hM hk'
      have e : i = j := nd_ix h'.nd h1 g1
      subst e
      rw [h3, g3, ← h2, ← g2]
    · rw [sct_ne hk', sct_ne hk', sct_ne hk]
theorem dlen {L : Lon} {x : Stp} {M : List Int} : (doS L.P.m L.g x (gat L.pl M)).length = L.pl.length := by rw [doS_len, gat_len]
theorem onS_comm {n : Nat} {L L' : Lon} (h : Plc n L.pl) (h' : Plc n L'.pl) (hd : ∀ p ∈ L'.pl, p ∉ L.pl) {x y : Stp} {M : List Int} (hM : M.length = n) : onS L x (onS L' y M) = onS L' y (onS L x M) := by
  unfold onS
  rw [gat_away (pl := L.pl) (pl' := L'.pl) fun p hp z => hd p z hp, gat_away (pl := L'.pl) (pl' := L.pl) hd]
  exact sct_comm h h' hd dlen dlen hM
theorem runS_onS {n : Nat} {L L' : Lon} (h : Plc n L.pl) (h' : Plc n L'.pl) (hd : ∀ p ∈ L'.pl, p ∉ L.pl) {y : Stp} : ∀ {xs : List Stp} {M : List Int}, M.length = n → runS L xs (onS L' y M) = onS L' y (runS L xs M)
  | [], _, _ => rfl
  | x :: r, M, hM => by
    show runS L r (onS L x (onS L' y M)) = onS L' y (runS L r (onS L x M))
    rw [onS_comm h h' hd hM]
    exact runS_onS h h' hd (by rw [onS_len]; exact hM)
theorem runS_comm {n : Nat} {L L' : Lon} (h : Plc n L.pl) (h' : Plc n L'.pl) (hd : ∀ p ∈ L'.pl, p ∉ L.pl) {xs : List Stp} : ∀ {ys : List Stp} {M : List Int}, M.length = n → runS L xs (runS L' ys M) = runS L' ys (runS L xs M)
  | [], _, _ => rfl
  | y :: r, M, hM => by
    show runS L xs (runS L' r (onS L' y M)) = runS L' r (onS L' y (runS L xs M))
    rw [runS_comm h h' hd (by rw [onS_len]; exact hM), runS_onS h h' hd hM]
theorem onS_inv {m : Int} {n : Nat} {L : Lon} (hL : OkL m n L) {M : List Int} (hM : M.length = n) (hR : Rng m M) {x : Stp} (hx : OkS L.P.m L.P.nc L.P.ni x) : onS L (invS L.P.m x) (onS L x M) = M := by
  have hp : Plc n L.pl := ⟨hL.nd, hL.lt⟩
  unfold onS
  rw [gat_sct hp dlen hM, doS_inv hL.p.m2 (by rw [hL.pm]; exact gat_rng hR (by rw [hM]; exact hL.lt)) (by rw [gat_len]; exact hL.ll) x hx]
  exact sct_back hp hM
theorem runS_app {L : Lon} {xs ys : List Stp} {M : List Int} : runS L (xs ++ ys) M = runS L ys (runS L xs M) := List.foldl_append ..
theorem runS_inv {m : Int} {n : Nat} {L : Lon} (hL : OkL m n L) : ∀ {xs : List Stp} {M : List Int}, M.length = n → Rng m M → (∀ x ∈ xs, OkS L.P.m L.P.nc L.P.ni x) → runS L (xs.reverse.map (invS L.P.m)) (runS L xs M) = M
  | [], _, _, _, _ => rfl
  | x :: r, M, hM, hR, hx => by
    have ox := hx x List.mem_cons_self
    have hM' : (onS L x M).length = n := by rw [onS_len]; exact hM
    rw [List.reverse_cons, List.map_append, runS_app]
    show runS L [invS L.P.m x] (runS L (r.reverse.map (invS L.P.m)) (runS L r (onS L x M))) = M
    rw [runS_inv hL hM' (onS_rng (by rw [hM]; exact hL) hR ox) fun y hy => hx y (List.mem_cons_of_mem _ hy)]
    exact onS_inv hL hM hR ox
/-- all open loans taken back, the last first -/
noncomputable def und1 (o : Option (Addr × Lon)) (M : List Int) : List Int := match o with
  | none => M
  | some (_, L) => undS L M
noncomputable def undA (ls : List (Option (Addr × Lon))) (M : List Int) : List Int := ls.foldr und1 M
theorem undS_len {L : Lon} {M : List Int} : (undS L M).length = M.length := runS_len
theorem und1_len : ∀ {o : Option (Addr × Lon)} {M : List Int}, (und1 o M).length = M.length
  | none, _ => rfl
  | some (_, _), _ => undS_len
theorem undA_len : ∀ {ls : List (Option (Addr × Lon))} {M : List Int}, (undA ls M).length = M.length
  | [], _ => rfl
  | o :: r, M => by
    show (und1 o (undA r M)).length = M.length
    rw [und1_len, undA_len]
theorem undS_rng {m : Int} {L : Lon} {M : List Int} (hL : OkL m M.length L) (hR : Rng m M) : Rng m (undS L M) := by
  refine runS_rng hL (fun x hx => ?_) hR
  obtain ⟨y, hy, rfl⟩ := List.mem_map.mp hx
  exact invS_ok hL.p.m2 y (hL.p.ok y (List.mem_of_mem_take (List.mem_reverse.mp hy)))
theorem undA_rng {m : Int} {n : Nat} : ∀ {ls : List (Option (Addr × Lon))} {M : List Int}, M.length = n → (∀ (i : Nat) a L, ls[i]? = some (some (a, L)) → OkL m n L) → Rng m M → Rng m (undA ls M)
  | [], _, _, _, h => h
  | o :: r, M, hM, hL, h => by
    have ih := undA_rng (ls := r) hM (fun i a L e => hL (i + 1) a L (by simpa using e)) h
    show Rng m (und1 o (undA r M))
    match o, hL with
    | none, _ => exact ih
    | some (a, L), hL =>
      refine undS_rng ?_ ih
      rw [undA_len, hM]
      exact hL 0 a L rfl
theorem undA_runS {m : Int} {n : Nat} {L : Lon} (h : Plc n L.pl) {xs : List Stp} : ∀ {ls : List (Option (Addr × Lon))} {M : List Int}, M.length = n → (∀ (i : Nat) a L', ls[i]? = some (some (a, L')) → OkL m n L' ∧ ∀ p ∈ L'.pl, p ∉ L.pl) →
    undA ls (runS L xs M) = runS L xs (undA ls M)
  | [], _, _, _ => rfl
  | o :: r, M, hM, hL => by
    have ih := undA_runS h (xs := xs) (ls := r) hM (fun i a L' e => hL (i + 1) a L' (by simpa using e))
    show und1 o (undA r (runS L xs M)) = runS L xs (und1 o (undA r M))
    rw [ih]
    match o, hL with
    | none, _ => rfl
    | some (a, L'), hL =>
      obtain ⟨ok, hd⟩ := hL 0 a L' rfl
      show undS L' (runS L xs (undA r M)) = runS L xs (undS L' (undA r M))
      unfold undS
      exact (runS_comm h ⟨ok.nd, ok.lt⟩ hd (by rw [undA_len]; exact hM)).symm
theorem undA_split {ls : List (Option (Addr × Lon))} {t : Nat} {o : Option (Addr × Lon)} (ht : ls[t]? = some o) (M : List Int) : undA ls M = undA (ls.take t) (und1 o (undA (ls.drop (t + 1)) M)) := by
  have tl : t < ls.length := (List.getElem?_eq_some_iff.mp ht).1
  have e : ls = ls.take t ++ o :: ls.drop (t + 1) := by
    have e1 : ls.drop t = o :: ls.drop (t + 1) := by
      rw [List.drop_eq_getElem_cons tl]
      congr 1
      exact Option.some.inj ((List.getElem?_eq_getElem tl).symm.trans ht)
    rw [← e1, List.take_append_drop]
  have q : undA ls M = undA (ls.take t ++ o :: ls.drop (t + 1)) M := by rw [← e]
  rw [q]
  unfold undA
  rw [List.foldr_append]
  rfl
theorem undA_set {ls : List (Option (Addr × Lon))} {t : Nat} (tl : t < ls.length) (o : Option (Addr × Lon)) (M : List Int) : undA (ls.set t o) M = undA (ls.take t) (und1 o (undA (ls.drop (t + 1)) M)) := by
  rw [undA_split (ls := ls.set t o) (o := o) (List.getElem?_set_self tl)]
  have e1 : (ls.set t o).take t = ls.take t := List.take_set_of_le (Nat.le_refl _)
  have e2 : (ls.set t o).drop (t + 1) = ls.drop (t + 1) := List.drop_set_of_lt (Nat.lt_succ_self _)
  rw [e1, e2]
section
variable {m : Int} {M : List Int} {ls : List (Option (Addr × Lon))} {t : Nat} {a : Addr} {L : Lon}
/-- advance -/
theorem undA_adv (ht : ls[t]? = some (some (a, L))) (ok : ∀ (i : Nat) a L', ls[i]? = some (some (a, L')) → OkL m M.length L') (hR : Rng m M)
    (ap : ∀ (j : Nat) a' L', t < j → ls[j]? = some (some (a', L')) → ∀ p ∈ L'.pl, p ∉ L.pl) (n : Nat) :
    undA (ls.set t (some (a, ⟨L.P, L.pl, L.g, L.bg, L.done + ((L.P.ss.drop L.done).take n).length⟩))) (runS L ((L.P.ss.drop L.done).take n) M) = undA ls M := by
  have tl : t < ls.length := (List.getElem?_eq_some_iff.mp ht).1
  have okL := ok t a L ht
  have hp : Plc M.length L.pl := ⟨okL.nd, okL.lt⟩
  have hB : ∀ (i : Nat) a L', (ls.drop (t + 1))[i]? = some (some (a, L')) → OkL m M.length L' ∧ ∀ p ∈ L'.pl, p ∉ L.pl := fun i a' L' e => by
    rw [List.getElem?_drop] at e
    exact ⟨ok _ _ _ e, ap _ _ _ (by omega) e⟩
  rw [undA_set tl, undA_split ht, undA_runS hp rfl hB]
  have nl : (undA (ls.drop (t + 1)) M).length = M.length := undA_len
  have nr : Rng m (undA (ls.drop (t + 1)) M) := undA_rng rfl (fun i a L' e => (hB i a L' e).1) hR
  generalize undA (ls.drop (t + 1)) M = N at nl nr
  congr 1
  show runS ⟨L.P, L.pl, L.g, L.bg, L.done + ((L.P.ss.drop L.done).take n).length⟩ ((L.P.ss.take (L.done + ((L.P.ss.drop L.done).take n).length)).reverse.map (invS L.P.m)) (runS L ((L.P.ss.drop L.done).take n) N) = undS L N
  have eR : ∀ zs K, runS ⟨L.P, L.pl, L.g, L.bg, L.done + ((L.P.ss.drop L.done).take n).length⟩ zs K = runS L zs K := fun zs K => rfl
  rw [eR]
  have e1 : L.P.ss.take (L.done + ((L.P.ss.drop L.done).take n).length) = L.P.ss.take L.done ++ (L.P.ss.drop L.done).take n := by
    rw [List.take_add, List.length_take]
    congr 1
    by_cases c : n ≤ (L.P.ss.drop L.done).length
    · rw [Nat.min_eq_left c]
    · rw [Nat.min_eq_right (by omega), List.take_of_length_le (Nat.le_refl _), List.take_of_length_le (by omega)]
  rw [e1, List.reverse_append, List.map_append, runS_app, runS_inv okL nl nr fun x hx => okL.p.ok x (List.mem_of_mem_drop (List.mem_of_mem_take hx))]
  rfl
/-- recall -/
theorem undA_rec (ht : ls[t]? = some (some (a, L))) (ok : ∀ (i : Nat) a L', ls[i]? = some (some (a, L')) → OkL m M.length L')
    (ap : ∀ (j : Nat) a' L', t < j → ls[j]? = some (some (a', L')) → ∀ p ∈ L'.pl, p ∉ L.pl) : undA (ls.set t none) (undS L M) = undA ls M := by
  have tl : t < ls.length := (List.getElem?_eq_some_iff.mp ht).1
  have okL := ok t a L ht
  have hp : Plc M.length L.pl := ⟨okL.nd, okL.lt⟩
  have hB : ∀ (i : Nat) a L', (ls.drop (t + 1))[i]? = some (some (a, L')) → OkL m M.length L' ∧ ∀ p ∈ L'.pl, p ∉ L.pl := fun i a' L' e => by
    rw [List.getElem?_drop] at e
    exact ⟨ok _ _ _ e, ap _ _ _ (by omega) e⟩
  rw [undA_set tl, undA_split ht]
  unfold undS
  rw [undA_runS hp rfl hB]
  rfl
/-- lend -/
theorem undA_len_ (x : Addr) (h0 : L.done = 0) : undA (ls ++ [some (x, L)]) M = undA ls M := by
  unfold undA
  rw [List.foldr_append]
  show ls.foldr und1 (undS L M) = _
  have e : undS L M = M := by
    unfold undS
    rw [h0]
    rfl
  rw [e]
/-- none is open -/
theorem undA_none : ∀ {ls : List (Option (Addr × Lon))}, (∀ (i : Nat) x, ls[i]? ≠ some (some x)) → undA ls M = M
  | [], _ => rfl
  | o :: r, h => by
    show und1 o (undA r M) = M
    rw [undA_none (ls := r) fun i x e => h (i + 1) x (by simpa using e)]
    match o, h with
    | none, _ => rfl
    | some x, h => exact absurd rfl (h 0 x)
end
/-- the steps that open loans have done -/
def dn1 (o : Option (Addr × Lon)) : Int := match o with
  | none => 0
  | some (_, L) => L.done
def dnA (ls : List (Option (Addr × Lon))) : Int := (ls.map dn1).sum
theorem dnA_set {ls : List (Option (Addr × Lon))} {t : Nat} {o o' : Option (Addr × Lon)} (ht : ls[t]? = some o) : dnA (ls.set t o') = dnA ls - dn1 o + dn1 o' := by
  unfold dnA
  rw [List.map_set]
  exact sum_set (by rw [List.getElem?_map, ht]; rfl)
theorem dnA_app {ls : List (Option (Addr × Lon))} {o : Option (Addr × Lon)} : dnA (ls ++ [o]) = dnA ls + dn1 o := by
  unfold dnA
  rw [List.map_append, List.sum_append]
  simp
theorem dnA_none : ∀ {ls : List (Option (Addr × Lon))}, (∀ (i : Nat) x, ls[i]? ≠ some (some x)) → dnA ls = 0
  | [], _ => rfl
  | o :: r, h => by
    have ih := dnA_none (ls := r) fun i x e => h (i + 1) x (by simpa using e)
    match o, h with
    | none, _ =>
      show ((0 : Int) :: r.map dn1).sum = 0
      rw [List.sum_cons]
      unfold dnA at ih
      omega
    | some x, h => exact absurd rfl (h 0 x)
section
variable {P : Program} {w : World} {K : PySem.W.Frag} {mg : Str → Option Value} {base : Heap}
/-! ### the law's _law_equal: on ints, on lists of ints -/
def spLEqI : Sp := fun vs H Q _ => ∃ i : Int, vs = [.int i, .int i] ∧ Q (.bl true) H
abbrev N_LEqual : List Str := ["_law_actual", "_law_due"]
theorem sc_LEqual : FnScope N_LEqual ["_law_actual", "_law_due"] (defScope sLEqual) := ⟨rfl, rfl, rfl, by decide +kernel, rfl, by decide +kernel, by decide +kernel⟩
theorem ok_LEqI (T : Top K mg) : FnOk P w K mg base CX0 1 T.LEqual.f T.LEqual.fd ["_law_actual", "_law_due"] spLEqI := by
  refine T.LEqual.F.ok sc_LEqual (fun vs H Q E h => ?_) (fun cdv A outer s H vs Q E hr h => ?_)
  · obtain ⟨i, rfl, _⟩ := h
    rfl
  · obtain ⟨i, rfl, kk⟩ := h
    refine ⟨_, (pss_cons (ps_if (pt_val (pe_callB call_isi rfl T.zisinstance (by decide +kernel) (pa_cons (pv 1) (pa_cons (pe_bltn (v := .ty "list") rfl T.zlist (by decide +kernel) rfl) pa_nil)))) pss_never pss_nil)
      (pss_cons (ps_if (pt_val (pe_callB call_isi rfl T.zisinstance (by decide +kernel) (pa_cons (pv 1) (pa_cons (pe_bltn (v := .ty "tuple") rfl T.ztuple (by decide +kernel) rfl) pa_nil)))) pss_never pss_nil)
      (pss_cons (ps_if (pt_val (pe_callB call_isi rfl T.zisinstance (by decide +kernel) (pa_cons (pv 1) (pa_cons (pe_bltn (v := .ty "bool") rfl T.zbool (by decide +kernel) rfl) pa_nil)))) pss_never pss_nil)
      (pss_cons (ps_if (pt_val (pe_callB call_isi rfl T.zisinstance (by decide +kernel) (pa_cons (pv 1) (pa_cons (pe_bltn (v := .ty "int") rfl T.zint (by decide +kernel) rfl) pa_nil)))) (pss_one (ps_ret (pe_and (pe_callB call_isi rfl T.zisinstance (by decide +kernel) (pa_cons (pv 0) (pa_cons (pe_bltn (v := .ty "int") rfl T.zint (by decide +kernel) rfl) pa_nil))) (pe_and (pe_not (pe_callB call_isi rfl T.zisinstance (by decide +kernel) (pa_cons (pv 0) (pa_cons (pe_bltn (v := .ty "bool") rfl T.zbool (by decide +kernel) rfl) pa_nil)))) (pe_one (pe_cmpR op_eq (pv 0) (pv 1) (nomark _))))))) pss_nil)
      pss_never)))), ?_⟩
    refine ⟨_, rfl, _, _, _, _, false, rfl, .ty "list", .base (.int i), kit_ty (by decide +kernel), false, rfl, iteF ?_⟩
    refine ⟨_, rfl, _, _, _, _, false, rfl, .ty "tuple", .base (.int i), kit_ty (by decide +kernel), false, rfl, iteF ?_⟩
    refine ⟨_, rfl, _, _, _, _, false, rfl, .ty "bool", .base (.int i), kit_ty (by decide +kernel), false, rfl, iteF ?_⟩
    refine ⟨_, rfl, _, _, _, _, true, rfl, .ty "int", .base (.int i), kit_ty (by decide +kernel), true, rfl, iteT ?_⟩
    refine ⟨_, rfl, _, _, _, _, true, rfl, .ty "int", .base (.int i), kit_ty (by decide +kernel), true, rfl, iteT ?_⟩
    refine ⟨_, rfl, _, _, _, _, false, rfl, .ty "bool", .base (.int i), kit_ty (by decide +kernel), false, rfl, true, rfl, iteT ?_⟩
    refine ⟨_, rfl, _, rfl, rfl, ?_⟩
    dsimp only
    rw [decide_eq_true (rfl : V.int i = V.int i)]
    exact kk
def spLAllEq : Sp := fun vs H Q _ => ∃ (a b : Addr) (xs : List Int), vs = [.ref a, .ref b] ∧ xs.length ≤ 200 ∧ H a = some (.lst (xs.map V.int)) ∧ H b = some (.lst (xs.map V.int)) ∧ Q (.bl true) H
abbrev N_LAllEqual : List Str := ["_law_actual", "_law_due", "_law_k"]
theorem sc_LAllEqual : FnScope N_LAllEqual ["_law_actual", "_law_due"] (defScope sLAllEqual) := ⟨rfl, rfl, rfl, by decide +kernel, rfl, by decide +kernel, by decide +kernel⟩
theorem ok_LAllEq (T : Top K mg) : FnOk P w K mg base CX0 2 T.LAllEqual.f T.LAllEqual.fd ["_law_actual", "_law_due"] spLAllEq := by
  refine T.LAllEqual.F.ok sc_LAllEqual (fun vs H Q E h => ?_) (fun cdv A outer s H vs Q E hr h => ?_)
  · obtain ⟨a, b, xs, rfl, _⟩ := h
    rfl
  · obtain ⟨a, b, xs, rfl, hl, ha, hb, kk⟩ := h
    refine ⟨_, (pss_cons (ps_for PassesOwn.never rfl (pi_range1 rfl T.zrange (pa_cons (pe_callB call_len_seq rfl T.zlen (by decide +kernel) (pa_cons (pv 1) pa_nil)) pa_nil)) (pg_name (i := 2) sc_LAllEqual.nd rfl (Or.inl rfl)) (pss_one (ps_if (pt_not (pt_val (pe_call (ok_LEqI T) (hr.mono (by decide)) rfl T.LEqual.g T.LEqual.kp T.LEqual.b .nil pass0 (pa_cons (pe_ix ix_list (pv 0) (pv 2) (fun _ _ => rfl)) (pa_cons (pe_ix ix_list (pv 1) (pv 2) (fun _ _ => rfl)) pa_nil))))) (pss_one ps_never) pss_nil)))
      (pss_one (ps_ret pe_bl))), ?_⟩
    have hl' : (xs.map V.int).length ≤ 200 := by rw [List.length_map]; exact hl
    refine ⟨_, rfl, b, _, rfl, .inl (SqL.of hb), _, rfl, by omega, by omega, for_range (lo := 0) (n := (xs.map V.int).length) (fun i σ H' => ∃ v2, σ = [some (.ref a), some (.ref b), v2] ∧ H' = H) ⟨none, rfl, rfl⟩ ?_ ?_⟩
    · rintro i σ H' hi ⟨v2, rfl, rfl⟩
      obtain ⟨z, hz⟩ : ∃ z, xs[i]? = some z := ⟨_, List.getElem?_eq_getElem (by rw [List.length_map] at hi; exact hi)⟩
      have hz' : atI (xs.map V.int) (0 + (i : Int)) = some (.int z) := by
        rw [Int.zero_add]
        exact atI_nat (by rw [List.getElem?_map, hz]; rfl)
      exact ⟨_, rfl, _, rfl, a, _, _, _, rfl, rfl, SqL.of ha, hz', _, rfl, _, rfl, b, _, _, _, rfl, rfl, SqL.of hb, hz', z, rfl, true, rfl, iteF ⟨_, rfl, rfl⟩⟩
    · rintro σ H' ⟨v2, rfl, rfl⟩
      exact kk
def spLEqL : Sp := fun vs H Q _ => ∃ (a b : Addr) (xs : List Int), vs = [.ref a, .ref b] ∧ xs.length ≤ 200 ∧ H a = some (.lst (xs.map V.int)) ∧ H b = some (.lst (xs.map V.int)) ∧ Q (.bl true) H
theorem ok_LEqL (T : Top K mg) : FnOk P w K mg base CX0 3 T.LEqual.f T.LEqual.fd ["_law_actual", "_law_due"] spLEqL := by
  refine T.LEqual.F.ok sc_LEqual (fun vs H Q E h => ?_) (fun cdv A outer s H vs Q E hr h => ?_)
  · obtain ⟨a, b, xs, rfl, _⟩ := h
    rfl
  · obtain ⟨a, b, xs, rfl, hl, ha, hb, kk⟩ := h
    refine ⟨_, (pss_cons (ps_if (pt_val (pe_callB call_isi rfl T.zisinstance (by decide +kernel) (pa_cons (pv 1) (pa_cons (pe_bltn (v := .ty "list") rfl T.zlist (by decide +kernel) rfl) pa_nil)))) (pss_cons (ps_if (PW.pt (pw_or (pt_not (pt_val (pe_callB call_isi rfl T.zisinstance (by decide +kernel) (pa_cons (pv 0) (pa_cons (pe_bltn (v := .ty "list") rfl T.zlist (by decide +kernel) rfl) pa_nil))))) (pw_or1 (pt_cmpR op_ne (pe_callB call_len_seq rfl T.zlen (by decide +kernel) (pa_cons (pv 0) pa_nil)) (pe_callB call_len_seq rfl T.zlen (by decide +kernel) (pa_cons (pv 1) pa_nil)) (nomark _))))) (pss_one ps_never) pss_nil)
          (pss_one (ps_ret (pe_call (ok_LAllEq T) (hr.mono (by decide)) rfl T.LAllEqual.g T.LAllEqual.kp T.LAllEqual.b .nil pass0 (pa_cons (pv 0) (pa_cons (pv 1) pa_nil)))))) pss_nil)
      pss_never), ?_⟩
    refine ⟨_, rfl, _, _, _, _, true, rfl, .ty "list", .base (.lst hb), kit_ty (by decide +kernel), true, rfl, iteT ?_⟩
    refine ⟨_, rfl, _, _, _, _, true, rfl, .ty "list", .base (.lst ha), kit_ty (by decide +kernel), true, rfl, iteF ?_⟩
    refine ⟨_, rfl, a, _, rfl, .inl (SqL.of ha), _, rfl, b, _, rfl, .inl (SqL.of hb), rfl, _, rfl, ifF (nT (decT rfl)) ?_⟩
    exact ⟨_, rfl, _, rfl, a, b, xs, rfl, hl, ha, hb, kk⟩
end
section
variable {P : Program} {w : World} {K : PySem.W.Frag} {mg : Str → Option Value} {base : Heap}
/-! ### _law_house -/
def spLHouse (CV : Addr) : Sp := fun vs H Q _ => ∃ (D : DS) (m : Int), vs = [.ref D.d, .int m] ∧ Dr D H ∧ 2 ≤ m ∧ m ≤ 1000000000 ∧
  ∀ (h v mm ca la dx : Addr) (M : List Int) (H' : Hp), Go D H H' → H h = none → H v = none → H mm = none → H ca = none → H la = none → [h, v, mm, ca, la].Nodup →
    H' h = some (.lst [.ref v, .ref mm, .int 0, .int 0, .int 0]) → H' v = some (.ins CV dx (vf m ca la)) → H' mm = some (.lst (M.map V.int)) → H' ca = some (.lst (M.map V.int)) → H' la = some (.lst []) → Rng m M → 3 ≤ M.length → M.length ≤ 200 → Q (.ref h) H'
abbrev N_LHouse : List Str := ["_law_draws", "_law_modulus_here", "_law_memory", "_law_k"]
theorem sc_LHouse : FnScope N_LHouse ["_law_draws", "_law_modulus_here"] (defScope sLHouse) := ⟨rfl, rfl, rfl, by decide +kernel, rfl, by decide +kernel, by decide +kernel⟩
theorem ok_LHouse (T : Top K mg) : FnOk P w K mg base CX0 6 T.LHouse.f T.LHouse.fd ["_law_draws", "_law_modulus_here"] (spLHouse T.cVault.C) := by
  refine T.LHouse.F.ok sc_LHouse (fun vs H Q E h => ?_) (fun cdv A outer s H vs Q E hr h => ?_)
  · obtain ⟨D, m, rfl, _⟩ := h
    rfl
  · obtain ⟨D, m, rfl, hD, hm, hm1, kk⟩ := h
    refine ⟨_, (pss_cons (ps_setLc (i := 2) (own := [("_law_k", 3)]) (g := (gName 3)) (tt := tYes) rfl sc_LHouse.nd rfl rfl (sw_true rfl rfl rfl (by decide +kernel)) (pi_range1 rfl T.zrange (pa_cons (pe_callB (call_max2 rfl) rfl T.zmax (by decide +kernel) (pa_cons pe_int (pa_cons (pe_call (ok_LSize T) (hr.mono (by decide)) rfl T.LSize.g T.LSize.kp T.LSize.b .nil pass0 (pa_cons (pv 0) pa_nil)) pa_nil))) pa_nil)) (blkOk_by (N := N_LHouse) (sc := defScope sLHouse) (own := [("_law_k", 3)]) (by decide +kernel)) (fun _ _ _ _ _ => (pg_name (i := 3) sc_LHouse.nd rfl (Or.inl rfl))) (fun _ _ _ _ _ => pts_nil) (fun _ _ _ _ _ => (pe_call (ok_LNumber T) (hr.mono (by decide)) rfl T.LNumber.g T.LNumber.kp T.LNumber.b .nil pass0 (pa_cons (pv 0) (pa_cons (pv 1) pa_nil)))))
      (pss_one (ps_ret (pe_lst (pa_cons (pe_make T.vInit.i (ok_vInit T) (hr.mono (by decide)) rfl T.cVault.g T.vInit.b .nil pass0 (pa_cons (pe_callTy call_list_of rfl T.zlist (by decide +kernel) (pa_cons (pv 2) pa_nil)) (pa_cons (pv 1) pa_nil))) (pa_cons (pv 2) (pa_cons pe_int (pa_cons pe_int (pa_cons pe_int pa_nil))))))))), ?_⟩
    refine ⟨_, rfl, D, rfl, hD, fun r H1 r0 r1 g1 => ⟨3, r, rfl, if r > 3 then r else 3, rfl, by split <;> omega, by split <;> omega, fun B hB => ?_⟩⟩
    have n3 : 3 ≤ (if r > 3 then r else 3) := by split <;> omega
    have n200 : (if r > 3 then r else 3) ≤ 200 := by split <;> omega
    generalize (if r > 3 then r else 3) = n at n3 n200
    obtain ⟨nb1, nb2⟩ := g1.dr.apart hB
    have hDb : Dr D (upd H1 B (.lst [])) := g1.dr.same (Same.new hB)
    have hBH : H B = none := g1.free hB
    refine lc_range (lo := 0) (n := n.toNat) (fun i H' => GoB D B (upd H1 B (.lst [])) H' ∧ ∃ M : List Int, H' B = some (.lst (M.map V.int)) ∧ M.length = i ∧ Rng m M)
      ⟨GoB.start hDb, [], upd_same, rfl, fun _ hh => nomatch hh⟩ ?_ ?_
    · rintro i H2 hi ⟨g2, M, h2, l2, R2⟩
      refine ⟨rfl, _, rfl, _, rfl, D, m, rfl, g2.dr, hm, fun z H3 z0 z1 g3 => ⟨M.map V.int, g3.but B _ nb1 h2, small_line (by rw [List.length_map]; omega), (g2.go g3).put nb1 nb2, M ++ [z], ?_, ?_, ?_⟩⟩
      · rw [upd_same, List.map_append]
        rfl
      · rw [List.length_append, l2]
        rfl
      · intro x hx
        rcases List.mem_append.mp hx with q | q
        · exact R2 x q
        · rw [List.mem_singleton.mp q]
          exact ⟨z0, z1⟩
    · rintro H2 ⟨g2, M, h2, l2, R2⟩
      have g02 : Go D H H2 := GoB.end_ g1 hB g2
      refine ⟨_, rfl, B, _, rfl, .inl (SqL.of h2), fun q hq => ⟨_, rfl, fun v dx hv hdx ndv => ⟨v, dx, q, m, M, rfl, upd_same, ?_, R2, hm, hm1, by omega, by omega, fun ca la H3 hca hla ncl ncv nlv h3c h3l h3v b3 => ⟨rfl, _, rfl, (by show 5 ≤ sizeLine; decide), fun h hh => ?_⟩⟩⟩⟩
      · rw [upd_ne (ne_of_none upd_same hv), upd_ne (ne_of_none upd_same hdx)]
        exact upd_same
      · have s2q : Same H2 (upd H2 q (.lst (M.map V.int))) := Same.new hq
        have hv2 : H2 v = none := s2q.free hv
        have hdx2 : H2 dx = none := s2q.free hdx
        have s2m : Same H2 (upd (upd (upd H2 q (.lst (M.map V.int))) dx (.own v)) v (.ins T.cVault.C dx [])) := (s2q.rewr hdx2).rewr hv2
        have s23 : Same H2 H3 := fun b o e => b3 b o (ne_of_none e hv2) (s2m _ _ e)
        have hca2 : H2 ca = none := s2m.free hca
        have hla2 : H2 la = none := s2m.free hla
        have g03 : Go D H H3 := g02.trans ⟨g02.dr.same s23, fun b o _ e => s23 b o e⟩
        have h3B := s23 _ _ h2
        have x1 : v ≠ h := ne_of_none h3v hh
        have x2 : B ≠ h := ne_of_none h3B hh
        have x3 : ca ≠ h := ne_of_none h3c hh
        have x4 : la ≠ h := ne_of_none h3l hh
        have x5 : B ≠ v := ne_of_none h2 hv2
        have x6 : B ≠ ca := ne_of_none h2 hca2
        have x7 : B ≠ la := ne_of_none h2 hla2
        refine kk h v B ca la dx M _ (g03.new hh) (g03.free hh) (g02.free hv2) hBH (g02.free hca2) (g02.free hla2) ?_ upd_same (by rw [upd_ne x1]; exact h3v) (by rw [upd_ne x2]; exact h3B) (by rw [upd_ne x3]; exact h3c) (by rw [upd_ne x4]; exact h3l) R2 (by omega) (by omega)
        simp only [List.nodup_cons, List.mem_cons, List.not_mem_nil, or_false, not_or, not_false_eq_true, List.nodup_nil, and_true]
        exact ⟨⟨x1.symm, x2.symm, x3.symm, x4.symm⟩, ⟨x5.symm, ncv.symm, nlv.symm⟩, ⟨x6, x7⟩, ncl⟩
end
theorem mu_set {S : VS} {t : Nat} {a : Addr} {L : Lon} (ht : S.ls[t]? = some (some (a, L))) {m : Int} {M : List Int} {o : Option (Addr × Lon)} (ho : ∀ x, o = some x → x.1 = a) : ∀ b, Mu ⟨m, S.ca, S.la, M, S.ls.set t o⟩ b → Mu S b := fun b h => by
  rcases h with h | h | ⟨i, L', h⟩
  · exact .inl h
  · exact .inr (.inl h)
  · have h' : (S.ls.set t o)[i]? = some (some (b, L')) := h
    by_cases c : t = i
    · subst c
      rw [List.getElem?_set_self (List.getElem?_eq_some_iff.mp ht).1] at h'
      have e := ho (b, L') (Option.some.inj h')
      have e' : b = a := e
      rw [e']
      exact .inr (.inr ⟨t, L, ht⟩)
    · rw [List.getElem?_set_ne c] at h'
      exact .inr (.inr ⟨i, L', h'⟩)
def tbCalled (CP CL CV CB : Addr) (W : WX) : TS :=
  tSeq (tIfS (tTest (tOp (rI0 fun i j => .bl (decide (i < j))) (tVar 1) (tC (.int 4)))) (tRet (tMeth CV "advance" (spVAdvance CP CL CV CB) [] (fun cls d H => ∀ σ, W cls d σ H) (tVar 0) (tCons (tVar 2) (tCons (tVar 3) tNil)))) tNext)
    (tIfS (tTest (tOp rEq (tVar 1) (tC (.int 4)))) (tDrop (tMeth CV "answer" (spVAnswer CP CL CV CB) [] (fun cls d H => ∀ σ, W cls d σ H) (tVar 0) (tCons (tVar 2) tNil)))
      (tRet (tUn (rU fun i => .int (-i)) (tMeth CV "recall" (spVRecall CP CL CV CB) [] (fun cls d H => ∀ σ, W cls d σ H) (tVar 0) (tCons (tVar 2) tNil)))))
section
variable {P : Program} {w : World} {K : PySem.W.Frag} {mg : Str → Option Value} {base : Heap}
/-! ### _law_called -/
def spLCalled (CP CL CV : Addr) : Sp := fun vs H Q _ => ∃ (I : Hp) (v : Addr) (S : VS) (t : Nat) (a : Addr) (L : Lon) (pick : Int) (n : Nat), vs = [.ref v, .int pick, .int t, .int n] ∧ VSt CP CL CV I H v S ∧ S.ls[t]? = some (some (a, L)) ∧
  ∀ (S' : VS) (z : Int) (H' : Hp), VSt CP CL CV I H' v S' → S'.m = S.m → undA S'.ls S'.M = undA S.ls S.M → dnA S'.ls = dnA S.ls + z → S'.ls.length = S.ls.length → Fr (Mu S) H H' → (∀ b, Mu S' b → Mu S b) → Q (.int z) H'
abbrev N_LCalled : List Str := ["_law_vault", "_law_pick", "_law_ticket", "_law_most"]
theorem sc_LCalled : FnScope N_LCalled ["_law_vault", "_law_pick", "_law_ticket", "_law_most"] (defScope sLCalled) := ⟨rfl, rfl, rfl, by decide +kernel, rfl, by decide +kernel, by decide +kernel⟩
theorem ok_LCalled (T : Top K mg) : FnOk P w K mg base CX0 7 T.LCalled.f T.LCalled.fd ["_law_vault", "_law_pick", "_law_ticket", "_law_most"] (spLCalled T.cProgram.C T.cLoan.C T.cVault.C) := by
  refine T.LCalled.F.ok sc_LCalled (fun vs H Q E h => ?_) (fun cdv A outer s H vs Q E hr h => ?_)
  · obtain ⟨I, v, S, t, a, L, pick, n, rfl, _⟩ := h
    rfl
  · obtain ⟨I, v, S, t, a, L, pick, n, rfl, X, ht, kk⟩ := h
    refine ⟨_, (pss_cons (ps_try_only (tb := tbCalled T.cProgram.C T.cLoan.C T.cVault.C T.xBusy.C) (ts := fun _ _ _ => tRet (tC (.int 0))) (Wout := fun _ _ _ _ => False) rfl rfl ⟨rfl, by decide, Or.inl T.xBusy.g⟩ takes0
        (fun W pn xe tk _ => ?_)
        (fun a oe cls d pn _ _ => pss_one (ps_ret pe_int)))
      (pss_one (ps_ret pe_int))), ?_⟩
    · exact pss_cons (ps_if (pt_cmpR op_lt (pv 1) pe_int (nomark _)) (pss_one (ps_ret (pe_meth (E := fun cls d H => ∀ σ, W cls d σ H) (pv 0) T.cVault.c T.vAdvance.m (ok_vAdvance T) (hr.mono (by decide)) T.vAdvance.b .nil (passes_call tk (fun cls d σ H h => h σ)) (by exact (pa_cons (pv 2) (pa_cons (pv 3) pa_nil)))))) pss_nil)
        (pss_one (ps_if (pt_cmpR op_eq (pv 1) pe_int (nomark _)) (pss_one (ps_expr (pe_meth (E := fun cls d H => ∀ σ, W cls d σ H) (pv 0) T.cVault.c T.vAnswer.m (ok_vAnswer T) (hr.mono (by decide)) T.vAnswer.b .nil (passes_call tk (fun cls d σ H h => h σ)) (by exact (pa_cons (pv 2) pa_nil))))) (pss_one (ps_ret (pe_un un_neg (pe_meth (E := fun cls d H => ∀ σ, W cls d σ H) (pv 0) T.cVault.c T.vRecall.m (ok_vRecall T) (hr.mono (by decide)) T.vRecall.b .nil (passes_call tk (fun cls d σ H h => h σ)) (by exact (pa_cons (pv 2) pa_nil))))))))
    obtain ⟨dx, hv⟩ := X.hv
    have kB : ∀ H', Same H H' → Q (.int 0) H' := fun H' s1 => kk S 0 H' (X.same s1) rfl rfl (by omega) rfl (Fr.of s1) fun _ h => h
    have okA : ∀ (i : Nat) a L', S.ls[i]? = some (some (a, L')) → OkL S.m S.M.length L' := fun i a L e => (X.lo i a L e).2.2
    refine ⟨_, rfl, pick, 4, rfl, rfl, _, rfl, ifb (fun _ => ?_) fun _ => ⟨_, rfl, rfl, _, rfl, ifb (fun _ => ?_) fun _ => ?_⟩⟩
    · refine ⟨_, rfl, v, dx, _, rfl, hv, vf_advance, _, rfl, _, rfl, I, v, S, t, a, L, n, rfl, X, ht, fun H' s1 σ => ⟨true, T.xBusy.ex, fun _ _ _ => kB H' s1, fun q => nomatch q⟩, fun H' k hk ap X' fr => ?_⟩
      subst hk
      refine kk _ _ H' X' rfl (undA_adv ht okA X.rng ap n) ?_ List.length_set fr (mu_set ht fun x hx => by cases hx; rfl)
      show dnA (S.ls.set t _) = _
      rw [dnA_set ht]
      show dnA S.ls - ((L.done : Nat) : Int) + ((L.done + ((L.P.ss.drop L.done).take n).length : Nat) : Int) = _
      omega
    · exact ⟨_, rfl, v, dx, _, rfl, hv, vf_answer, _, rfl, I, v, S, t, a, L, rfl, X, ht, fun H' s1 σ => ⟨true, T.xBusy.ex, fun _ _ _ => kB H' s1, fun q => nomatch q⟩, fun z H' s1 => kB H' s1⟩
    · refine ⟨_, rfl, v, dx, _, rfl, hv, vf_recall, _, rfl, I, v, S, t, a, L, rfl, X, ht, fun H' s1 _ σ => ⟨true, T.xBusy.ex, fun _ _ _ => kB H' s1, fun q => nomatch q⟩, fun H' ap X' fr => ⟨_, rfl, ?_⟩⟩
      refine kk _ _ H' X' rfl (undA_rec ht okA ap) ?_ List.length_set fr (mu_set ht fun x hx => nomatch hx)
      show dnA (S.ls.set t _) = _
      rw [dnA_set ht]
      show dnA S.ls - ((L.done : Nat) : Int) + 0 = dnA S.ls + (- ((L.done : Nat) : Int))
      omega
end
/-! ### the law's state: a house, a list of known programs -/
structure Hs (CP CL CV : Addr) (I H : Hp) (h v mm : Addr) (M0 : List Int) (S : VS) (adv rec : Int) (cnt : Nat) : Prop where
  hh : H h = some (.lst [.ref v, .ref mm, .int adv, .int rec, .int cnt])
  ih : I h = none
  im : I mm = some (.lst (M0.map V.int))
  vs : VSt CP CL CV I H v S
  un : undA S.ls S.M = M0
  ad : adv = rec + dnA S.ls
  ln : S.ls.length ≤ cnt
  c6 : cnt ≤ 6
  l3 : 3 ≤ M0.length
  nm : ¬ Mu S h
def PairAt (CP : Addr) (I : Hp) (m : Int) (x : V) : Prop := ∃ (q lo pa : Addr) (a3 a4 a5 : V) (R : Prg), x = .ref q ∧ I q = some (.lst [.ref lo, .ref pa]) ∧ I lo = some (.lst [.int R.nc, .int R.ni, a3, a4, a5]) ∧ ProgAt CP I pa R ∧ OkP R ∧ R.m = m
theorem PairAt.mono {CP : Addr} {I I' : Hp} (s : Same I I') {m : Int} {x : V} (h : PairAt CP I m x) : PairAt CP I' m x := by
  obtain ⟨q, lo, pa, a3, a4, a5, R, e, h1, h2, h3, h4⟩ := h
  exact ⟨q, lo, pa, a3, a4, a5, R, e, s _ _ h1, s _ _ h2, h3.mono s, h4⟩
structure Kn (CP : Addr) (I H : Hp) (k : Addr) (m : Int) : Prop where
  ex : ∃ vs, H k = some (.lst vs) ∧ vs.length ≤ 2 ∧ ∀ x ∈ vs, PairAt CP I m x
  ik : I k = none
theorem Kn.away {CP : Addr} {I H I' H' : Hp} {k : Addr} {m : Int} {R : Addr → Prop} (X : Kn CP I H k m) (fr : Fr R H H') (sI : Same I I') (nn : ∀ b, H b ≠ none → I b = none → I' b = none) (nk : ¬ R k) : Kn CP I' H' k m := by
  obtain ⟨vs, h1, h2, h3⟩ := X.ex
  exact ⟨⟨vs, fr _ _ nk h1, h2, fun x hx => (h3 x hx).mono sI⟩, nn k (by rw [h1]; exact fun z => nomatch z) X.ik⟩
theorem Hs.away {CP CL CV : Addr} {I H I' H' : Hp} {h v mm : Addr} {M0 : List Int} {S : VS} {adv rec : Int} {cnt : Nat} {R : Addr → Prop} (X : Hs CP CL CV I H h v mm M0 S adv rec cnt) (fr : Fr R H H') (sI : Same I I') (s' : Same I' H')
    (nn : ∀ b, H b ≠ none → I b = none → I' b = none) (nh : ¬ R h) (nM : ∀ b, Mu S b → ¬ R b) : Hs CP CL CV I' H' h v mm M0 S adv rec cnt :=
  ⟨fr _ _ nh X.hh, nn h (by rw [X.hh]; exact fun z => nomatch z) X.ih, sI _ _ X.im, X.vs.away fr sI s' nn nM, X.un, X.ad, X.ln, X.c6, X.l3, X.nm⟩
theorem VSt.put {CP CL CV : Addr} {I H : Hp} {v h : Addr} {S : VS} {o' : HO} (X : VSt CP CL CV I H v S) (ih : I h = none) (nm : ¬ Mu S h) : VSt CP CL CV I (upd H h o') v S := by
  refine X.away (R := fun b => b = h) (fun b o n e => by rw [upd_ne n]; exact e) (Same.refl _) (fun b o e => ?_) (fun _ _ e => e) fun b hb z => nm (by rw [← z]; exact hb)
  rw [upd_ne fun z => by rw [z, ih] at e; cases e]
  exact X.sub _ _ e
/-- I and what has come since H -/
def Gr (I H H' : Hp) : Hp := fun b => match I b with | some o => some o | none => Nw H H' b
section
variable {I H H' : Hp}
theorem Gr.up : Same I (Gr I H H') := fun b o e => by
  unfold Gr
  rw [e]
theorem Gr.nw (s : Same I H) : Same (Nw H H') (Gr I H H') := fun b o e => by
  have hb : H b = none := by
    unfold Nw at e
    cases q : H b with
    | none => rfl
    | some u => rw [q] at e; cases e
  unfold Gr
  rw [s.free hb]
  exact e
theorem Gr.none (hb : H b ≠ none) (hi : I b = none) : Gr I H H' b = none := by
  unfold Gr
  rw [hi]
  unfold Nw
  cases q : H b with
  | none => exact absurd q hb
  | some u => rfl
theorem Gr.sub (s : Same I H') : Same (Gr I H H') H' := fun b o e => by
  unfold Gr at e
  cases q : I b with
  | none => rw [q] at e; exact Nw.same _ _ e
  | some u => rw [q] at e; rw [s _ _ q]; exact e
end
/-- draws, new things, a longer list of known programs -/
structure Mid (D : DS) (k : Addr) (I H I1 H1 : Hp) : Prop where
  sI : Same I I1
  s1 : Same I1 H1
  nn : ∀ b, H b ≠ none → I b = none → I1 b = none
  fr : Fr (fun b => b = D.d ∨ b = k) H H1
  al : ∀ b, H b ≠ none → H1 b ≠ none
section
variable {D : DS} {k : Addr} {I H I1 H1 H2 : Hp}
theorem Mid.start (s : Same I H) : Mid D k I H I H := ⟨Same.refl _, s, fun _ _ e => e, Fr.refl _ _, fun _ e => e⟩
theorem Mid.same (a : Mid D k I H I1 H1) (s : Same H1 H2) : Mid D k I H I1 H2 := ⟨a.sI, a.s1.trans s, a.nn, fun b o n e => s _ _ (a.fr b o n e), fun b e z => a.al b e (s.free z)⟩
theorem Mid.go (a : Mid D k I H I1 H1) (g : Go D H1 H2) (hd : H D.d ≠ none) (id_ : I D.d = none) : Mid D k I H I1 H2 :=
  ⟨a.sI, fun b o e => g.but b o (fun z => by rw [z, a.nn _ hd id_] at e; cases e) (a.s1 _ _ e), a.nn, fun b o n e => g.but b o (fun z => n (.inl z)) (a.fr b o n e), fun b e z => a.al b e (g.free z)⟩
theorem Mid.grow (a : Mid D k I H I H1) (fr : Fr (fun b => b = D.d ∨ b = k) H1 H2) (al : ∀ b, H1 b ≠ none → H2 b ≠ none) (id_ : I D.d = none) (ik : I k = none) : Mid D k I H (Gr I H1 H2) H2 := by
  refine ⟨Gr.up, Gr.sub fun b o e => fr b o ?_ (a.s1 _ _ e), fun b hb hi => Gr.none (a.al b hb) hi, a.fr.trans fr, fun b hb => al b (a.al b hb)⟩
  rintro (z | z)
  · rw [z, id_] at e
    cases e
  · rw [z, ik] at e
    cases e
end
/-- what a move leaves as it was -/
structure Gs (D : DS) (h k : Addr) (S S' : VS) (I H I' H' : Hp) : Prop where
  sI : Same I I'
  nn : ∀ b, H b ≠ none → I b = none → I' b = none
  fr : Fr (fun b => b = D.d ∨ b = h ∨ b = k ∨ Mu S b) H H'
  mu : ∀ b, Mu S' b → Mu S b ∨ H b = none
theorem opn_mem {ls : List (Option (Addr × Lon))} {n t : Nat} (h : t ∈ opn ls n) : ∃ a L, ls[t]? = some (some (a, L)) := by
  unfold opn at h
  have q := (List.mem_filter.mp h).2
  cases e : ls[t]? with
  | none => rw [e] at q; cases q
  | some o =>
    rw [e] at q
    match o, q with
    | none, q => cases q
    | some (a, L), _ => exact ⟨a, L, rfl⟩
theorem opn_nil {ls : List (Option (Addr × Lon))} (h : opn ls ls.length = []) : ∀ (i : Nat) x, ls[i]? ≠ some (some x) := fun i x e => by
  have il : i < ls.length := (List.getElem?_eq_some_iff.mp e).1
  have hm : i ∈ opn ls ls.length := by
    unfold opn
    refine List.mem_filter.mpr ⟨List.mem_range.mpr il, ?_⟩
    rw [e]
  rw [h] at hm
  cases hm
def mvTail (CP : Addr) (D : DS) (I H : Hp) (h k v : Addr) (m : Int) (cnt nM : Nat) (Q : VK) : TS := fun E σ H1 => ∃ (I1 : Hp) (v7 : Option V) (p : Addr) (n : Nat) (vs : List V), (∀ σ H', Q .non H' → E.nx σ H') ∧
  σ = [some (.ref D.d), some (.ref h), some (.int m), some (.ref k), some (.ref v), some (.ref p), some (.int n), v7, none, none, none, none, none] ∧
  Mid D k I H I1 H1 ∧ Dr D H1 ∧ H1 k = some (.lst vs) ∧ 1 ≤ vs.length ∧ vs.length ≤ 2 ∧ (∀ x ∈ vs, PairAt CP I1 m x) ∧ 1 ≤ n ∧ n ≤ 8 ∧ n ≤ nM ∧ cnt < 6
theorem mu_app {S : VS} {m : Int} {M : List Int} {x : Addr} {L : Lon} : ∀ b, Mu ⟨m, S.ca, S.la, M, S.ls ++ [some (x, L)]⟩ b → Mu S b ∨ b = x := fun b h => by
  rcases h with h | h | ⟨i, L', h⟩
  · exact .inl (.inl h)
  · exact .inl (.inr (.inl h))
  · have h' : (S.ls ++ [some (x, L)])[i]? = some (some (b, L')) := h
    by_cases c : i < S.ls.length
    · rw [List.getElem?_append_left c] at h'
      exact .inl (.inr (.inr ⟨i, L', h'⟩))
    · rw [List.getElem?_append_right (by omega)] at h'
      by_cases c2 : i = S.ls.length
      · subst c2
        rw [Nat.sub_self] at h'
        cases h'
        exact .inr rfl
      · rw [List.getElem?_eq_none (by show 1 ≤ i - S.ls.length; omega)] at h'
        cases h'
theorem Nw.free {H0 H : Hp} {b : Addr} {o : HO} (e : Nw H0 H b = some o) : H0 b = none := by
  unfold Nw at e
  cases q : H0 b with
  | none => rfl
  | some u => rw [q] at e; cases e
theorem rng_put {m z : Int} {M : List Int} (h : Rng m M) (z0 : 0 ≤ z) (z1 : z < m) : Rng m (M ++ [z]) := fun x hx => by
  rcases List.mem_append.mp hx with q | q
  · exact h x q
  · rw [List.mem_singleton.mp q]
    exact ⟨z0, z1⟩
theorem Dr.keep {D : DS} {I H H' : Hp} {R : Addr → Prop} (X : Dr D H) (fr : Fr R H H') (n : ¬ R D.d) (s : Same I H') (iL : I D.dl = some (.lst (D.ns.map V.int))) : Dr D H' := by
  obtain ⟨k, e⟩ := X.at_
  exact ⟨⟨k, fr _ _ n e⟩, s _ _ iL, X.ok⟩
section
variable {P : Program} {w : World} {K : PySem.W.Frag} {mg : Str → Option Value} {base : Heap}
/-! ### _law_move -/
def spLMove (CP CL CV : Addr) : Sp := fun vs H Q _ => ∃ (D : DS) (I : Hp) (h k v mm : Addr) (m : Int) (M0 : List Int) (S : VS) (adv rec : Int) (cnt : Nat), vs = [.ref D.d, .ref h, .int m, .ref k] ∧ Dr D H ∧ I D.d = none ∧ I D.dl = some (.lst (D.ns.map V.int)) ∧
  Hs CP CL CV I H h v mm M0 S adv rec cnt ∧ S.m = m ∧ Kn CP I H k m ∧ D.d ≠ h ∧ D.d ≠ k ∧ h ≠ k ∧ ¬ Mu S D.d ∧ ¬ Mu S k ∧
  ∀ (I' : Hp) (S' : VS) (adv' rec' : Int) (cnt' : Nat) (H' : Hp), Hs CP CL CV I' H' h v mm M0 S' adv' rec' cnt' → S'.m = m → Kn CP I' H' k m → Dr D H' → Gs D h k S S' I H I' H' → Q .non H'
abbrev N_LMove : List Str := ["_law_draws", "_law_house_here", "_law_modulus_here", "_law_known", "_law_vault", "_law_tickets", "_law_size_here", "_law_loan_here", "_law_pair", "_law_given", "_law_k", "_law_ticket", "_law_moved"]
theorem sc_LMove : FnScope N_LMove ["_law_draws", "_law_house_here", "_law_modulus_here", "_law_known"] (defScope sLMove) := ⟨rfl, rfl, rfl, by decide +kernel, rfl, by decide +kernel, by decide +kernel⟩
theorem ok_LMove (T : Top K mg) : FnOk P w K mg base CX0 9 T.LMove.f T.LMove.fd ["_law_draws", "_law_house_here", "_law_modulus_here", "_law_known"] (spLMove T.cProgram.C T.cLoan.C T.cVault.C) := by
  refine T.LMove.F.ok sc_LMove (fun vs H Q E h => ?_) (fun cdv A outer s H vs Q E hr h => ?_)
  · obtain ⟨D, I, h, k, v, mm, m, M0, S, adv, rec, cnt, rfl, _⟩ := h
    rfl
  · obtain ⟨D, I, h, k, v, mm, m, M0, S, adv, rec, cnt, rfl, hD, iD, iL, X, hSm, kn, nDh, nDk, nhk, nMD, nMk, kk⟩ := h
    have hm2 : 2 ≤ m := by rw [← hSm]; exact X.vs.m2
    have hdd : H D.d ≠ none := by
      obtain ⟨o, e⟩ := hD.some_
      rw [e]
      exact fun z => nomatch z
    have hkk : H k ≠ none := by
      obtain ⟨vs, e, _⟩ := kn.ex
      rw [e]
      exact fun z => nomatch z
    have midHs : ∀ I1 H1, Mid D k I H I1 H1 → Hs T.cProgram.C T.cLoan.C T.cVault.C I1 H1 h v mm M0 S adv rec cnt := fun I1 H1 md => by
      refine X.away md.fr md.sI md.s1 md.nn ?_ ?_
      · rintro (z | z)
        · exact nDh z.symm
        · exact nhk z
      · rintro b hb (z | z)
        · exact nMD (by rw [← z]; exact hb)
        · exact nMk (by rw [← z]; exact hb)
    refine ⟨_, (pss_cons (ps_set (i := 4) sc_LMove.nd rfl (Or.inl rfl) (pe_ix ix_list (pv 1) pe_int (fun _ _ => rfl)))
      (pss_cons (ps_set (i := 5) sc_LMove.nd rfl (Or.inl rfl) (pe_meth0 (pv 4) T.cVault.c T.vOpenLoans.m (ok_vOpenLoans T) (hr.mono (by decide)) T.vOpenLoans.b .nil pass0))
      (pss_cons (ps_set (i := 6) sc_LMove.nd rfl (Or.inl rfl) (pe_callB (call_min2 rfl) rfl T.zmin (by decide +kernel) (pa_cons pe_int (pa_cons (pe_callB call_len_seq rfl T.zlen (by decide +kernel) (pa_cons (pe_ix ix_list (pv 1) pe_int (fun _ _ => rfl)) pa_nil)) pa_nil))))
      (pss_one (ps_if (PT.weak (t' := fun σ H' Qb => ∃ (p : Addr) (tk : List Nat) (n : Nat), σ = [some (.ref D.d), some (.ref h), some (.int m), some (.ref k), some (.ref v), some (.ref p), some (.int n), none, none, none, none, none, none] ∧ Dr D H' ∧ H' h = some (.lst [.ref v, .ref mm, .int adv, .int rec, .int cnt]) ∧ H' p = some (.lst (tk.map nV)) ∧ ∀ b H'', Go D H' H'' → (b = true → cnt < 6) → Qb b H'') (PW.pt (pw_and (pt_cmpR op_lt (pe_ix ix_list (pv 1) pe_int (fun _ _ => rfl)) pe_int (nomark _)) (pw_and1 (PW.pt (pw_or (pt_cmpR op_eq (pe_callB call_len_seq rfl T.zlen (by decide +kernel) (pa_cons (pv 5) pa_nil)) pe_int (nomark _)) (pw_or1 (pt_cmpR op_eq (pe_op op_mod (pe_call (ok_LDraw T) (hr.mono (by decide)) rfl T.LDraw.g T.LDraw.kp T.LDraw.b .nil pass0 (pa_cons (pv 0) pa_nil)) pe_int) pe_int (nomark _)))))))) (by
        rintro σ H' Qb ⟨p, tk, n, rfl, hD, hh, hp, q⟩
        refine ⟨_, rfl, h, _, 4, .int cnt, rfl, rfl, SqL.of hh, rfl, _, 6, rfl, rfl, _, rfl, ifb (fun c1 => ?_) fun _ => q false H' (Go.refl hD) fun z => nomatch z⟩
        have c2 : (cnt : Int) < 6 := of_decide_eq_true c1
        refine ⟨_, rfl, p, _, rfl, .inl (SqL.of hp), rfl, _, rfl, ifb (fun _ => q true H' (Go.refl hD) fun _ => by omega) fun _ => ?_⟩
        exact ⟨_, rfl, D, rfl, hD, fun r H2 r0 r1 g2 => ⟨r, 5, rfl, rfl, (by show (0 : Int) < 5; decide), rfl, _, rfl, q _ H2 g2 fun _ => by omega⟩⟩)) (pss_cons (ps_if (pt_cmpR op_lt (pe_callB call_len_seq rfl T.zlen (by decide +kernel) (pa_cons (pv 3) pa_nil)) pe_int (nomark _)) (pss_cons (ps_set (i := 7) sc_LMove.nd rfl (Or.inl rfl) (pe_call (ok_LLoan T) (hr.mono (by decide)) rfl T.LLoan.g T.LLoan.kp T.LLoan.b .nil pass0 (pa_cons (pv 0) (pa_cons (pv 2) (pa_cons (pv 6) pa_nil)))))
              (pss_one (ps_expr (pe_bm PySem.F.plainAttrs_list PySem.F.slot_list_append PySem.F.type_list_append mt_append (pv 3) (pa_cons (pe_lst (pa_cons (pv 7) (pa_cons (pe_make T.pInit.i (ok_pInit T) (hr.mono (by decide)) rfl T.cProgram.g T.pInit.b .nil pass0 (pa_cons (pv 2) (pa_cons (pe_ix ix_list (pv 7) pe_int (fun _ _ => rfl)) (pa_cons (pe_ix ix_list (pv 7) pe_int (fun _ _ => rfl)) (pa_cons (pe_callTy call_list_of rfl T.zlist (by decide +kernel) (pa_cons (pe_ix ix_list (pv 7) pe_int (fun _ _ => rfl)) pa_nil)) pa_nil))))) pa_nil))) pa_nil))))) pss_nil)
          (PSs.weak (t' := mvTail T.cProgram.C D I H h k v m cnt S.M.length Q) (pss_cons (ps_set (i := 8) sc_LMove.nd rfl (Or.inl rfl) (pe_ix ix_list (pv 3) (pe_op op_mod (pe_call (ok_LDraw T) (hr.mono (by decide)) rfl T.LDraw.g T.LDraw.kp T.LDraw.b .nil pass0 (pa_cons (pv 0) pa_nil)) (pe_callB call_len_seq rfl T.zlen (by decide +kernel) (pa_cons (pv 3) pa_nil))) (fun _ _ => rfl)))
          (pss_one (ps_if (pt_cmpR op_le (pe_ix ix_list (pe_ix ix_list (pv 8) pe_int (fun _ _ => rfl)) pe_int (fun _ _ => rfl)) (pv 6) (nomark _)) (pss_cons (ps_setLc (i := 9) (own := [("_law_k", 10)]) (g := (gName 10)) (tt := tYes) rfl sc_LMove.nd rfl rfl (sw_true rfl rfl rfl (by decide +kernel)) (pi_range1 rfl T.zrange (pa_cons (pe_ix ix_list (pe_ix ix_list (pv 8) pe_int (fun _ _ => rfl)) pe_int (fun _ _ => rfl)) pa_nil)) (blkOk_by (N := N_LMove) (sc := defScope sLMove) (own := [("_law_k", 10)]) (by decide +kernel)) (fun _ _ _ _ _ => (pg_name (i := 10) sc_LMove.nd rfl (Or.inl rfl))) (fun _ _ _ _ _ => pts_nil) (fun _ _ _ _ _ => (pe_call (ok_LNumber T) (hr.mono (by decide)) rfl T.LNumber.g T.LNumber.kp T.LNumber.b .nil pass0 (pa_cons (pv 0) (pa_cons (pv 2) pa_nil)))))
              (pss_cons (ps_expr (pe_meth (pv 4) T.cVault.c T.vLend.m (ok_vLend T) (hr.mono (by decide)) T.vLend.b .nil pass0 (pa_cons (pe_ix ix_list (pv 8) pe_int (fun _ _ => rfl)) (pa_cons (pe_call (ok_LPlaces T) (hr.mono (by decide)) rfl T.LPlaces.g T.LPlaces.kp T.LPlaces.b .nil pass0 (pa_cons (pv 0) (pa_cons (pv 6) (pa_cons (pe_ix ix_list (pe_ix ix_list (pv 8) pe_int (fun _ _ => rfl)) pe_int (fun _ _ => rfl)) pa_nil)))) (pa_cons (pv 9) pa_nil)))))
              (pss_one (ps_asg (pe_op op_add (pe_ix ix_list (pv 1) pe_int (fun _ _ => rfl)) pe_int) (pg_sub (pv 1) pe_int set_list))))) pss_nil))) (by
        rintro E' σ H1 ⟨I1, v7, p, n, vs, eE, rfl, md, hD1, hk1, l1, l2, hP, hn1, hn2, hn3, hc⟩
        refine ⟨_, rfl, _, rfl, D, rfl, hD1, fun r H2 r0 r1 g2 => ?_⟩
        have hk2 : H2 k = some (.lst vs) := g2.but k _ (Ne.symm nDk) hk1
        have md2 := md.go g2 hdd iD
        have z0 : 0 ≤ r % (vs.length : Int) := Int.emod_nonneg _ (by omega)
        have z1 : r % (vs.length : Int) < vs.length := Int.emod_lt_of_pos _ (by omega)
        obtain ⟨j, hj⟩ : ∃ j : Nat, r % (vs.length : Int) = (j : Int) := ⟨(r % (vs.length : Int)).toNat, by omega⟩
        obtain ⟨x, hx⟩ : ∃ x, vs[j]? = some x := ⟨_, List.getElem?_eq_getElem (by omega)⟩
        obtain ⟨q, lo, pa, a3, a4, a5, R, rfl, hq, hlo, hPr, okR, hRm⟩ := hP x (List.mem_of_getElem? hx)
        have hq2 := md2.s1 _ _ hq
        have hlo2 := md2.s1 _ _ hlo
        have hs2 := midHs _ _ md2
        refine ⟨_, rfl, k, vs, rfl, .inl (SqL.of hk2), r, _, rfl, rfl, (by show (0 : Int) < (vs.length : Nat); omega), k, vs, _, .ref q, rfl, rfl, SqL.of hk2, (by rw [hj]; exact atI_nat hx), ?_⟩
        refine ⟨_, rfl, q, _, 0, .ref lo, rfl, rfl, SqL.of hq2, rfl, lo, _, 0, .int R.nc, rfl, rfl, SqL.of hlo2, rfl, _, rfl, R.nc, n, rfl, rfl, _, rfl, ifb (fun c => ?_) fun _ => ?_⟩
        · have hcn : (R.nc : Int) ≤ n := of_decide_eq_true c
          refine ⟨_, rfl, q, _, 0, .ref lo, rfl, rfl, SqL.of hq2, rfl, lo, _, 1, .int R.ni, rfl, rfl, SqL.of hlo2, rfl, R.ni, rfl, by have := okR.i2; omega, by have := okR.i2; omega, fun G hG => ?_⟩
          obtain ⟨ng1, ng2⟩ := g2.dr.apart hG
          refine lc_range (lo := 0) (n := R.ni) (fun i H' => GoB D G (upd H2 G (.lst [])) H' ∧ ∃ g : List Int, H' G = some (.lst (g.map V.int)) ∧ g.length = i ∧ Rng m g) ⟨GoB.start (g2.dr.same (Same.new hG)), [], upd_same, rfl, fun _ hh => nomatch hh⟩ ?_ ?_
          · rintro i H5 hi ⟨g5, ys, h5, l5, R5⟩
            refine ⟨rfl, _, rfl, _, rfl, D, m, rfl, g5.dr, hm2, fun z H6 y0 y1 g6 => ⟨ys.map V.int, g6.but G _ ng1 h5, small_line (by rw [List.length_map]; have := okR.i2; omega), (g5.go g6).put ng1 ng2, ys ++ [z], ?_, ?_, rng_put R5 y0 y1⟩⟩
            · rw [upd_same, List.map_append]
              rfl
            · rw [List.length_append, l5]
              rfl
          · rintro H4 ⟨g4, g, h4, lg, rg⟩
            have g24 : Go D H2 H4 := GoB.end_ (Go.refl g2.dr) hG g4
            have md4 := md2.go g24 hdd iD
            have hs4 := midHs _ _ md4
            obtain ⟨dx, hv4⟩ := hs4.vs.hv
            have hq4 := md4.s1 _ _ hq
            have hlo4 := md4.s1 _ _ hlo
            refine ⟨_, rfl, v, dx, _, rfl, hv4, vf_lend, _, rfl, q, _, 1, .ref pa, rfl, rfl, SqL.of hq4, rfl, _, rfl, _, rfl, _, rfl, q, _, 0, .ref lo, rfl, rfl, SqL.of hq4, rfl, lo, _, 0, .int R.nc, rfl, rfl, SqL.of hlo4, rfl, D, n, R.nc, rfl, g24.dr, by omega, by omega, fun pl ps H5 g5 hpl lps nd lt => ?_⟩
            have md5 := md4.go g5 hdd iD
            have hs5 := midHs _ _ md5
            have h5 : H5 G = some (.lst (g.map V.int)) := g5.but G _ ng1 h4
            have hk5 : H5 k = some (.lst vs) := g5.but k _ (Ne.symm nDk) (g24.but k _ (Ne.symm nDk) hk2)
            refine ⟨_, rfl, I1, v, S, pa, pl, G, R, ps, g, rfl, hs5.vs, by have := X.ln; omega, hPr, okR, hRm.trans hSm.symm, Nw.same _ _ hpl, lps, nd, fun x hx => by have := lt x hx; omega, h5, lg, (by rw [hSm]; exact rg), fun H6 I6 x bg z sI6 nn6 hx6 X6 fr6 => ?_⟩
            have hh6 : H6 h = some (.lst [.ref v, .ref mm, .int adv, .int rec, .int cnt]) := fr6 _ _ X.nm hs5.hh
            have ih6 : I6 h = none := nn6 h (by rw [hs5.hh]; exact fun z => nomatch z) hs5.ih
            refine ⟨_, rfl, h, _, 4, .int cnt, rfl, rfl, SqL.of hh6, rfl, cnt, 1, rfl, rfl, _, rfl, h, _, 4, 4, rfl, rfl, hh6, rfl, ?_⟩
            have mu6 : ∀ b, Mu ⟨S.m, S.ca, S.la, S.M, S.ls ++ [some (x, ⟨R, ps, g, bg, 0⟩)]⟩ b → Mu S b ∨ b = x := mu_app
            have nm6 : ¬ Mu ⟨S.m, S.ca, S.la, S.M, S.ls ++ [some (x, ⟨R, ps, g, bg, 0⟩)]⟩ h := fun z => by
              rcases mu6 _ z with z | z
              · exact X.nm z
              · rw [← z, hs5.hh] at hx6
                cases hx6
            have fr7 : Fr (fun b => b = h ∨ Mu S b) H5 (upd H6 h (.lst [.ref v, .ref mm, .int adv, .int rec, .int (cnt + 1 : Nat)])) := fun b o n e => by
              rw [upd_ne fun z => n (.inl z)]
              exact fr6 _ _ (fun z => n (.inr z)) e
            have X7 := X6.put (o' := .lst [.ref v, .ref mm, .int adv, .int rec, .int (cnt + 1 : Nat)]) ih6 nm6
            have nDR : ¬ (D.d = h ∨ Mu S D.d) := fun z => z.elim nDh nMD
            have nkR : ¬ (k = h ∨ Mu S k) := fun z => z.elim (fun z => nhk z.symm) nMk
            have kn5 : Kn T.cProgram.C I1 H5 k m := ⟨⟨vs, hk5, l2, hP⟩, md5.nn k hkk kn.ik⟩
            show E'.nx _ (upd H6 h (.lst [.ref v, .ref mm, .int adv, .int rec, .int (cnt + 1 : Nat)]))
            refine eE _ _ (kk I6 ⟨S.m, S.ca, S.la, S.M, S.ls ++ [some (x, ⟨R, ps, g, bg, 0⟩)]⟩ adv rec (cnt + 1) _ ⟨upd_same, ih6, sI6 _ _ hs5.im, X7, (undA_len_ x rfl).trans X.un, ?_, ?_, by omega, X.l3, nm6⟩ hSm (kn5.away fr7 sI6 nn6 nkR) (g5.dr.keep fr7 nDR X7.sub (sI6 _ _ (md5.sI _ _ iL))) ⟨md5.sI.trans sI6, fun b hb hi => nn6 b (md5.al b hb) (md5.nn b hb hi), ?_, ?_⟩)
            · show adv = rec + dnA (S.ls ++ [_])
              rw [dnA_app]
              show adv = rec + (dnA S.ls + 0)
              have := X.ad
              omega
            · show (S.ls ++ [_]).length ≤ cnt + 1
              rw [List.length_append]
              have := X.ln
              show S.ls.length + 1 ≤ cnt + 1
              omega
            · exact (md5.fr.mono fun b hb => hb.elim .inl fun z => .inr (.inr (.inl z))).trans (fr7.mono fun b hb => hb.elim (fun z => .inr (.inl z)) fun z => .inr (.inr (.inr z)))
            · intro b hb
              rcases mu6 b hb with z | z
              · exact .inl z
              · subst z
                cases e : H b with
                | none => exact .inr rfl
                | some o => exact absurd hx6 (md5.al b (by rw [e]; exact fun z => nomatch z))
        · exact eE _ _ (kk I1 S adv rec cnt H2 hs2 hSm ⟨⟨vs, hk2, l2, hP⟩, md2.nn k hkk kn.ik⟩ g2.dr ⟨md2.sI, md2.nn, md2.fr.mono fun b hb => hb.elim .inl fun z => .inr (.inr (.inl z)), fun b hb => .inl hb⟩)))) (pss_one (ps_if (pt_cmpR op_gt (pe_callB call_len_seq rfl T.zlen (by decide +kernel) (pa_cons (pv 5) pa_nil)) pe_int (nomark _)) (pss_cons (ps_set (i := 11) sc_LMove.nd rfl (Or.inl rfl) (pe_ix ix_list (pv 5) (pe_op op_mod (pe_call (ok_LDraw T) (hr.mono (by decide)) rfl T.LDraw.g T.LDraw.kp T.LDraw.b .nil pass0 (pa_cons (pv 0) pa_nil)) (pe_callB call_len_seq rfl T.zlen (by decide +kernel) (pa_cons (pv 5) pa_nil))) (fun _ _ => rfl)))
              (pss_cons (ps_set (i := 12) sc_LMove.nd rfl (Or.inl rfl) (pe_call (ok_LCalled T) (hr.mono (by decide)) rfl T.LCalled.g T.LCalled.kp T.LCalled.b .nil pass0 (pa_cons (pv 4) (pa_cons (pe_op op_mod (pe_call (ok_LDraw T) (hr.mono (by decide)) rfl T.LDraw.g T.LDraw.kp T.LDraw.b .nil pass0 (pa_cons (pv 0) pa_nil)) pe_int) (pa_cons (pv 11) (pa_cons (pe_op op_mod (pe_call (ok_LDraw T) (hr.mono (by decide)) rfl T.LDraw.g T.LDraw.kp T.LDraw.b .nil pass0 (pa_cons (pv 0) pa_nil)) pe_int) pa_nil))))))
              (pss_one (ps_if (pt_cmpR op_gt (pv 12) pe_int (nomark _)) (pss_one (ps_asg (pe_op op_add (pe_ix ix_list (pv 1) pe_int (fun _ _ => rfl)) (pv 12)) (pg_sub (pv 1) pe_int set_list))) (pss_one (ps_asg (pe_op op_sub (pe_ix ix_list (pv 1) pe_int (fun _ _ => rfl)) (pv 12)) (pg_sub (pv 1) pe_int set_list))))))) pss_nil))))))), ?_⟩
    obtain ⟨dx, hv⟩ := X.vs.hv
    have lM : M0.length = S.M.length := by rw [← X.un, undA_len]
    refine ⟨_, rfl, h, _, 0, .ref v, rfl, rfl, SqL.of X.hh, rfl, ?_⟩
    refine ⟨_, rfl, v, dx, _, rfl, hv, vf_open, I, v, S, rfl, X.vs, by have := X.ln; have := X.c6; omega, fun p H1 hp s1 hp1 => ?_⟩
    have hh1 := s1 _ _ X.hh
    have hm1 := s1 _ _ (X.vs.sub _ _ X.im)
    refine ⟨_, rfl, h, _, 1, .ref mm, rfl, rfl, SqL.of hh1, rfl, mm, _, rfl, .inl (SqL.of hm1), 8, _, rfl, ?_⟩
    obtain ⟨n, en⟩ : ∃ n : Nat, (if ((M0.map V.int).length : Int) < 8 then ((M0.map V.int).length : Int) else 8) = (n : Int) := ⟨if M0.length < 8 then M0.length else 8, by rw [List.length_map]; split <;> split <;> omega⟩
    have hn : 1 ≤ n ∧ n ≤ 8 ∧ n ≤ S.M.length := by
      have := X.l3
      rw [List.length_map] at en
      split at en <;> omega
    dsimp only
    rw [en]
    clear en
    obtain ⟨hn1, hn2, hn3⟩ := hn
    have md1 : Mid D k I H I H1 := (Mid.start X.vs.sub).same s1
    refine ⟨p, _, n, rfl, hD.same s1, hh1, hp1, fun b H2 g2 hb => ?_⟩
    have md2 := md1.go g2 hdd iD
    obtain ⟨ks, hk, lk, hP⟩ := kn.ex
    have hk2 : H2 k = some (.lst ks) := g2.but k _ (Ne.symm nDk) (s1 _ _ hk)
    have hp2 : H2 p = some (.lst ((opn S.ls S.ls.length).map nV)) := g2.but p _ (hD.apart hp).1 hp1
    have hs2 := midHs _ _ md2
    refine ifb (fun hb1 => ?_) fun hb1 => ?_
    · have c6 := hb hb1
      refine ⟨_, rfl, k, _, rfl, .inl (SqL.of hk2), _, 2, rfl, rfl, _, rfl, ifb (fun cl => ?_) fun cl => ?_⟩
      · have clk : (ks.length : Int) < 2 := of_decide_eq_true cl
        refine ⟨_, rfl, _, rfl, _, rfl, D, m, n, rfl, g2.dr, hm2, hn1, by omega, fun lo l nc ni x y xs ss H3 g3 hlo hl hP3 hO c1 c5 cn i2 l7 => ?_⟩
        have hlo3 := Nw.same _ _ hlo
        have hl3 := Nw.same _ _ hl
        have hk3 : H3 k = some (.lst ks) := g3.but k _ (Ne.symm nDk) hk2
        refine ⟨_, rfl, .inl ⟨rfl, _, SqL.of hk3⟩, _, rfl, _, rfl, _, rfl, lo, _, 0, .int nc, rfl, rfl, SqL.of hlo3, rfl, _, rfl, lo, _, 1, .int ni, rfl, rfl, SqL.of hlo3, rfl, _, rfl, lo, _, 2, .ref l, rfl, rfl, SqL.of hlo3, rfl, l, xs, rfl, .inl (SqL.of hl3), fun l2 hl2 x2 dx2 hx hdx ned => ?_⟩
        have okR : OkP ⟨m, nc, ni, ss⟩ := ⟨hm2, by rw [← hSm]; exact X.vs.mm, c1, (by show nc ≤ 60; omega), (by show ni ≤ 60; omega), (by show ss.length ≤ 20000; omega), hO⟩
        have s3a : Same H3 (upd H3 l2 (.lst xs)) := Same.new hl2
        have hx3 : H3 x2 = none := s3a.free hx
        have hdx3 : H3 dx2 = none := s3a.free hdx
        have s3m : Same H3 (upd (upd (upd H3 l2 (.lst xs)) dx2 (.own x2)) x2 (.ins T.cProgram.C dx2 [])) := (s3a.rewr hdx3).rewr hx3
        refine ⟨x2, dx2, l2, ⟨m, nc, ni, ss⟩, xs, rfl, upd_same, okR, ?_, pd_mono (fun _ _ => StpAt.mono (Nw.same.trans s3m)) hP3, fun l3 H7 hl3n hl37 hx7 b7 => ⟨rfl, (by show 2 ≤ sizeLine; decide), fun q hq => ?_⟩⟩
        · rw [upd_ne (ne_of_none upd_same hx), upd_ne (ne_of_none upd_same hdx)]
          exact upd_same
        · have s37 : Same H3 H7 := fun b o e => b7 b o (ne_of_none e hx3) (s3m _ _ e)
          have s38 : Same H3 (upd H7 q (.lst [.ref lo, .ref x2])) := s37.newer hq
          have h8q : upd H7 q (.lst [.ref lo, .ref x2]) q = some (.lst [.ref lo, .ref x2]) := upd_same
          have h8x : upd H7 q (.lst [.ref lo, .ref x2]) x2 = some (.ins T.cProgram.C dx2 (pf m nc ni l3)) := by rw [upd_ne (ne_of_none hx7 hq)]; exact hx7
          have h8l : upd H7 q (.lst [.ref lo, .ref x2]) l3 = some (.lst xs) := by rw [upd_ne (ne_of_none hl37 hq)]; exact hl37
          generalize upd H7 q (.lst [.ref lo, .ref x2]) = H8 at s38 h8q h8x h8l
          have hk8 := s38 _ _ hk3
          refine ⟨k, ks, .ref q, rfl, rfl, hk8, small_line (by omega), ?_⟩
          have fr29 : Fr (fun b => b = D.d ∨ b = k) H2 (upd H8 k (.lst (ks ++ [.ref q]))) := fun b o nb e => by
            rw [upd_ne fun z => nb (.inr z)]
            exact s38 _ _ (g3.but b o (fun z => nb (.inl z)) e)
          have al29 : ∀ b, H2 b ≠ none → upd H8 k (.lst (ks ++ [.ref q])) b ≠ none := fun b hb => by
            by_cases c : b = k
            · subst c
              rw [upd_same]
              exact fun z => nomatch z
            · rw [upd_ne c]
              exact fun z => hb (g3.free (s38.free z))
          have md9 := md2.grow fr29 al29 iD kn.ik
          have lift : ∀ b o, H2 b = none → H8 b = some o → Gr I H2 (upd H8 k (.lst (ks ++ [.ref q]))) b = some o := fun b o hb0 e => Gr.nw md2.s1 _ _ (by
            rw [Nw.of hb0, upd_ne (ne_of_none hk2 hb0).symm]
            exact e)
          have monoN : Same (Nw H2 H3) (Gr I H2 (upd H8 k (.lst (ks ++ [.ref q])))) := fun b o e => lift b o (Nw.free e) (s38 _ _ (Nw.same _ _ e))
          have fr89 : Fr (fun b => b = k) H8 (upd H8 k (.lst (ks ++ [.ref q]))) := fun b o nb e => by rw [upd_ne nb]; exact e
          refine ⟨_, some (.ref lo), p, n, ks ++ [.ref q], fun _ _ q => q, rfl, md9, (g3.dr.same s38).keep fr89 nDk (md9.sI.trans md9.s1) iL, upd_same, ?_, ?_, fun y' hy => ?_, hn1, hn2, hn3, c6⟩
          · rw [List.length_append]
            show 1 ≤ ks.length + 1
            omega
          · rw [List.length_append]
            show ks.length + 1 ≤ 2
            omega
          · rcases List.mem_append.mp hy with z | z
            · exact (hP y' z).mono Gr.up
            · rw [List.mem_singleton.mp z]
              exact ⟨q, lo, x2, .ref l, x, y, ⟨m, nc, ni, ss⟩, rfl, lift _ _ (g3.free (s37.free hq)) h8q, monoN _ _ hlo, ⟨dx2, l3, xs, lift _ _ (g3.free hx3) h8x, lift _ _ (g3.free (s3m.free hl3n)) h8l, pd_mono (fun _ _ => StpAt.mono monoN) hP3⟩, okR, rfl⟩
      · have cl' : ¬ ((ks.length : Int) < 2) := of_decide_eq_false cl
        exact ⟨I, none, p, n, ks, fun _ _ q => q, rfl, md2, g2.dr, hk2, by omega, lk, hP, hn1, hn2, hn3, c6⟩
    · refine ⟨_, rfl, p, _, rfl, .inl (SqL.of hp2), _, 0, rfl, rfl, _, rfl, ifb (fun cl => ?_) fun _ => ?_⟩
      · have cl0 : (0 : Int) < ((opn S.ls S.ls.length).map nV).length := of_decide_eq_true cl
        rw [List.length_map] at cl0
        generalize e0 : opn S.ls S.ls.length = ts at hp2 cl0
        refine ⟨_, rfl, _, rfl, D, rfl, g2.dr, fun r H3 r0 r1 g3 => ?_⟩
        have hp3 : H3 p = some (.lst (ts.map nV)) := g3.but p _ (hD.apart hp).1 hp2
        have z0 : 0 ≤ r % (ts.length : Int) := Int.emod_nonneg _ (by omega)
        have z1 : r % (ts.length : Int) < ts.length := Int.emod_lt_of_pos _ (by omega)
        obtain ⟨j, hj⟩ : ∃ j : Nat, r % (ts.length : Int) = (j : Int) := ⟨(r % (ts.length : Int)).toNat, by omega⟩
        obtain ⟨t, ht⟩ : ∃ t, ts[j]? = some t := ⟨_, List.getElem?_eq_getElem (by omega)⟩
        obtain ⟨x, L, hL⟩ := opn_mem (ls := S.ls) (n := S.ls.length) (t := t) (by rw [e0]; exact List.mem_of_getElem? ht)
        refine ⟨_, rfl, p, _, rfl, .inl (SqL.of hp3), r, _, rfl, rfl, (by show (0 : Int) < ((ts.map nV).length : Nat); rw [List.length_map]; exact cl0), p, _, _, nV t, rfl, rfl, SqL.of hp3, (by rw [List.length_map, hj]; exact atI_nat (by rw [List.getElem?_map, ht]; rfl)), ?_⟩
        have g23 := g2.trans g3
        refine ⟨_, rfl, _, rfl, D, rfl, g3.dr, fun a H4 a0 a1 g4 => ⟨a, 6, rfl, rfl, (by show (0 : Int) < 6; decide), _, rfl, _, rfl, D, rfl, g4.dr, fun b5 H5 b0 b1 g5 => ⟨b5, 5, rfl, rfl, (by show (0 : Int) < 5; decide), ?_⟩⟩⟩
        obtain ⟨mo, hmo⟩ : ∃ mo : Nat, b5 % 5 = (mo : Int) := ⟨(b5 % 5).toNat, by omega⟩
        have md5 := ((md2.go g3 hdd iD).go g4 hdd iD).go g5 hdd iD
        have hs5 := midHs _ _ md5
        refine ⟨I, v, S, t, x, L, a % 6, mo, (by rw [← hmo]; rfl), hs5.vs, hL, fun S' z H6 X6 hm6 hu6 hd6 hl6 fr6 mu6 => ?_⟩
        have hh6 : H6 h = some (.lst [.ref v, .ref mm, .int adv, .int rec, .int cnt]) := fr6 _ _ X.nm hs5.hh
        have nm6 : ¬ Mu S' h := fun q => X.nm (mu6 _ q)
        have nDR : ¬ (D.d = h ∨ Mu S D.d) := fun z => z.elim nDh nMD
        have nkR : ¬ (k = h ∨ Mu S k) := fun z => z.elim (fun z => nhk z.symm) nMk
        have kn5 : Kn T.cProgram.C I H5 k m := ⟨⟨ks, (g5.but k _ (Ne.symm nDk) (g4.but k _ (Ne.symm nDk) (g3.but k _ (Ne.symm nDk) hk2))), lk, hP⟩, kn.ik⟩
        have fin : ∀ adv' rec' : Int, adv' = rec' + dnA S'.ls → Q .non (upd H6 h (.lst [.ref v, .ref mm, .int adv', .int rec', .int cnt])) := fun adv' rec' ha => by
          have fr7 : Fr (fun b => b = h ∨ Mu S b) H5 (upd H6 h (.lst [.ref v, .ref mm, .int adv', .int rec', .int cnt])) := fun b o n e => by
            rw [upd_ne fun z => n (.inl z)]
            exact fr6 _ _ (fun z => n (.inr z)) e
          have X7 := X6.put (o' := .lst [.ref v, .ref mm, .int adv', .int rec', .int cnt]) X.ih nm6
          exact kk I S' adv' rec' cnt _ ⟨upd_same, X.ih, X.im, X7, hu6.trans X.un, ha, by rw [hl6]; exact X.ln, X.c6, X.l3, nm6⟩ (hm6.trans hSm) (kn5.away fr7 (Same.refl _) (fun _ _ e => e) nkR) (g5.dr.keep fr7 nDR X7.sub iL)
            ⟨Same.refl _, fun _ _ e => e, (md5.fr.mono fun b hb => hb.elim .inl fun z => .inr (.inr (.inl z))).trans (fr7.mono fun b hb => hb.elim (fun z => .inr (.inl z)) fun z => .inr (.inr (.inr z))), fun b hb => .inl (mu6 b hb)⟩
        have hA := X.ad
        refine ⟨_, rfl, z, 0, rfl, rfl, _, rfl, ifb (fun c => ?_) fun c => ?_⟩
        · exact ⟨_, rfl, h, _, 2, .int adv, rfl, rfl, SqL.of hh6, rfl, _, rfl, adv, z, rfl, rfl, _, rfl, h, _, 2, 2, rfl, rfl, hh6, rfl, fin (adv + z) rec (by omega)⟩
        · exact ⟨_, rfl, h, _, 3, .int rec, rfl, rfl, SqL.of hh6, rfl, _, rfl, rec, z, rfl, rfl, _, rfl, h, _, 3, 3, rfl, rfl, hh6, rfl, fin adv (rec - z) (by omega)⟩
      · exact kk I S adv rec cnt H2 hs2 hSm ⟨⟨ks, hk2, lk, hP⟩, kn.ik⟩ g2.dr ⟨md2.sI, md2.nn, md2.fr.mono fun b hb => hb.elim .inl fun z => .inr (.inr (.inl z)), fun b hb => .inl hb⟩
end
/-! ### the open loans, counted -/
theorem opn_none {ls : List (Option (Addr × Lon))} {n t : Nat} (ht : t ∈ opn ls n) : (opn (ls.set t none) n).length < (opn ls n).length := by
  have e : opn (ls.set t none) n = (opn ls n).filter fun j => decide (j ≠ t) := by
    unfold opn
    rw [List.filter_filter]
    apply List.filter_congr
    intro j _
    by_cases c : t = j
    · subst c
      by_cases tl : t < ls.length
      · rw [List.getElem?_set_self tl]
        simp
      · rw [List.getElem?_eq_none (by rw [List.length_set]; omega)]
        simp
    · rw [List.getElem?_set_ne c]
      have c' : ¬ j = t := fun z => c z.symm
      simp [c']
  rw [e]
  exact List.length_filter_lt_length_iff_exists.mpr ⟨t, ht, by simp⟩
theorem opn_last {ls : List (Option (Addr × Lon))} {n i t : Nat} (hi : (opn ls n)[i]? = some t) (hl : i + 1 = (opn ls n).length) : ∀ j ∈ opn ls n, j ≤ t := fun j hj => by
  have hp : List.Pairwise (· < ·) (opn ls n) := List.pairwise_lt_range.filter _
  obtain ⟨q, hq⟩ := List.getElem?_of_mem hj
  have ql := (List.getElem?_eq_some_iff.mp hq)
  have il := (List.getElem?_eq_some_iff.mp hi)
  obtain ⟨q1, q2⟩ := ql
  obtain ⟨i1, i2⟩ := il
  by_cases c : q < i
  · have := List.pairwise_iff_getElem.mp hp q i q1 i1 c
    omega
  · have e : q = i := by omega
    subst e
    omega
theorem opn_in {ls : List (Option (Addr × Lon))} {j : Nat} {x : Addr × Lon} (h : ls[j]? = some (some x)) : j ∈ opn ls ls.length := by
  unfold opn
  refine List.mem_filter.mpr ⟨List.mem_range.mpr (List.getElem?_eq_some_iff.mp h).1, ?_⟩
  rw [h]
section
variable {P : Program} {w : World} {K : PySem.W.Frag} {mg : Str → Option Value} {base : Heap}
/-! ### _law_given_back -/
def spLGivenBack (CP CL CV : Addr) : Sp := fun vs H Q _ => ∃ (I : Hp) (h v mm : Addr) (M0 : List Int) (S : VS) (adv rec : Int) (cnt : Nat), vs = [.ref h] ∧ Hs CP CL CV I H h v mm M0 S adv rec cnt ∧
  ∀ H', Fr (fun b => b = h ∨ Mu S b) H H' → Same I H' → Q (.bl true) H'
abbrev N_LGivenBack : List Str := ["_law_house_here", "_law_vault", "_law_turn", "_law_tickets"]
theorem sc_LGivenBack : FnScope N_LGivenBack ["_law_house_here"] (defScope sLGivenBack) := ⟨rfl, rfl, rfl, by decide +kernel, rfl, by decide +kernel, by decide +kernel⟩
theorem ok_LGivenBack (T : Top K mg) : FnOk P w K mg base CX0 7 T.LGivenBack.f T.LGivenBack.fd ["_law_house_here"] (spLGivenBack T.cProgram.C T.cLoan.C T.cVault.C) := by
  refine T.LGivenBack.F.ok sc_LGivenBack (fun vs H Q E h => ?_) (fun cdv A outer s H vs Q E hr h => ?_)
  · obtain ⟨I, h, v, mm, M0, S, adv, rec, cnt, rfl, _⟩ := h
    rfl
  · obtain ⟨I, h, v, mm, M0, S, adv, rec, cnt, rfl, X, kk⟩ := h
    refine ⟨_, (pss_cons (ps_set (i := 1) sc_LGivenBack.nd rfl (Or.inl rfl) (pe_ix ix_list (pv 0) pe_int (fun _ _ => rfl)))
      (pss_cons (ps_for PassesOwn.never rfl (pi_range1 rfl T.zrange (pa_cons pe_int pa_nil)) (pg_name (i := 2) sc_LGivenBack.nd rfl (Or.inl rfl)) (pss_cons (ps_set (i := 3) sc_LGivenBack.nd rfl (Or.inl rfl) (pe_meth0 (pv 1) T.cVault.c T.vOpenLoans.m (ok_vOpenLoans T) (hr.mono (by decide)) T.vOpenLoans.b .nil pass0))
          (pss_one (ps_if (pt_cmpR op_gt (pe_callB call_len_seq rfl T.zlen (by decide +kernel) (pa_cons (pv 3) pa_nil)) pe_int (nomark _)) (pss_one (ps_asg (pe_op op_add (pe_ix ix_list (pv 0) pe_int (fun _ _ => rfl)) (pe_meth (pv 1) T.cVault.c T.vRecall.m (ok_vRecall T) (hr.mono (by decide)) T.vRecall.b .nil passL (pa_cons (pe_ix ix_list (pv 3) (pe_op op_sub (pe_callB call_len_seq rfl T.zlen (by decide +kernel) (pa_cons (pv 3) pa_nil)) pe_int) (fun _ _ => rfl)) pa_nil))) (pg_sub (pv 0) pe_int set_list))) pss_nil))))
      (pss_cons (ps_if (PW.pt (pw_or (pt_not (pt_val (pe_call (ok_LEqL T) (hr.mono (by decide)) rfl T.LEqual.g T.LEqual.kp T.LEqual.b .nil pass0 (pa_cons (pe_meth0 (pv 1) T.cVault.c T.vOpenLoans.m (ok_vOpenLoans T) (hr.mono (by decide)) T.vOpenLoans.b .nil pass0) (pa_cons (pe_lst pa_nil) pa_nil))))) (pw_or1 (pt_not (pt_val (pe_call (ok_LEqL T) (hr.mono (by decide)) rfl T.LEqual.g T.LEqual.kp T.LEqual.b .nil pass0 (pa_cons (pe_prop (pv 1) T.cVault.c T.vMemory.o (ok_vMemory T) (hr.mono (by decide)) T.vMemory.b .nil pass0 rfl) (pa_cons (pe_ix ix_list (pv 0) pe_int (fun _ _ => rfl)) pa_nil)))))))) (pss_one ps_never) pss_nil)
      (pss_one (ps_ret (pe_call (ok_LEqI T) (hr.mono (by decide)) rfl T.LEqual.g T.LEqual.kp T.LEqual.b .nil pass0 (pa_cons (pe_ix ix_list (pv 0) pe_int (fun _ _ => rfl)) (pa_cons (pe_ix ix_list (pv 0) pe_int (fun _ _ => rfl)) pa_nil)))))))), ?_⟩
    have l0 : (opn S.ls S.ls.length).length + 0 ≤ 6 := by
      have := opn_len S.ls S.ls.length
      have := X.ln
      have := X.c6
      omega
    refine ⟨_, rfl, h, _, 0, .ref v, rfl, rfl, SqL.of X.hh, rfl, ?_⟩
    refine ⟨6, rfl, by decide, by decide, for_range (lo := 0) (n := 6) (fun i σ H' => ∃ (v2 v3 : Option V) (S' : VS) (rec' : Int), σ = [some (.ref h), some (.ref v), v2, v3] ∧ Hs T.cProgram.C T.cLoan.C T.cVault.C I H' h v mm M0 S' adv rec' cnt ∧ (opn S'.ls S'.ls.length).length + i ≤ 6 ∧
        Fr (fun b => b = h ∨ Mu S b) H H' ∧ ∀ b, Mu S' b → Mu S b) ⟨none, none, S, rec, rfl, X, l0, Fr.refl _ _, fun _ q => q⟩ ?_ ?_⟩
    · rintro i σ H1 hi ⟨v2, v3, S', rec', rfl, X1, l1, f1, mu1⟩
      obtain ⟨dx, hv1⟩ := X1.vs.hv
      refine ⟨_, rfl, v, dx, _, rfl, hv1, vf_open, I, v, S', rfl, X1.vs, by have := X1.ln; have := X1.c6; omega, fun p H2 hp s2 hp2 => ?_⟩
      have X2 : Hs T.cProgram.C T.cLoan.C T.cVault.C I H2 h v mm M0 S' adv rec' cnt := X1.away (R := fun _ => False) (Fr.of s2) (Same.refl _) (X1.vs.sub.trans s2) (fun _ _ e => e) (fun z => z) fun _ _ z => z
      have f2 : Fr (fun b => b = h ∨ Mu S b) H H2 := f1.trans (Fr.of s2)
      refine ⟨_, rfl, p, _, rfl, .inl (SqL.of hp2), _, 0, rfl, rfl, _, rfl, ifb (fun c => ?_) fun c => ?_⟩
      · have c0 : (0 : Int) < ((opn S'.ls S'.ls.length).map nV).length := of_decide_eq_true c
        rw [List.length_map] at c0
        obtain ⟨j, hj⟩ : ∃ j : Nat, j + 1 = (opn S'.ls S'.ls.length).length := ⟨(opn S'.ls S'.ls.length).length - 1, by omega⟩
        obtain ⟨t, ht⟩ : ∃ t, (opn S'.ls S'.ls.length)[j]? = some t := ⟨_, List.getElem?_eq_getElem (by omega)⟩
        have htm := List.mem_of_getElem? ht
        obtain ⟨x, L, hL⟩ := opn_mem htm
        have noL : ¬ Later S' t := fun ⟨j', x', h1, h2⟩ => by
          have := opn_last ht hj j' (opn_in h2)
          omega
        obtain ⟨dx2, hv2⟩ := X2.vs.hv
        have hat : atI ((opn S'.ls S'.ls.length).map nV) ((((opn S'.ls S'.ls.length).map nV).length : Int) - 1) = some (nV t) := by
          have e : (((opn S'.ls S'.ls.length).map nV).length : Int) - 1 = (j : Int) := by rw [List.length_map]; omega
          rw [e]
          exact atI_nat (by rw [List.getElem?_map, ht]; rfl)
        refine ⟨_, rfl, h, _, 3, .int rec', rfl, rfl, SqL.of X2.hh, rfl, _, rfl, v, dx2, _, rfl, hv2, vf_recall, _, rfl, _, rfl, p, _, rfl, .inl (SqL.of hp2), _, 1, rfl, rfl, p, _, _, nV t, rfl, rfl, SqL.of hp2, hat, I, v, S', t, x, L, rfl, X2.vs, hL, fun H' _ z => absurd z noL, fun H3 ap X3 fr3 => ?_⟩
        have hh3 := fr3 _ _ X2.nm X2.hh
        have mu3 := mu_set (m := S'.m) (M := undS L S'.M) hL (o := none) fun x hx => nomatch hx
        have nm3 : ¬ Mu ⟨S'.m, S'.ca, S'.la, undS L S'.M, S'.ls.set t none⟩ h := fun z => X2.nm (mu3 _ z)
        refine ⟨rec', _, rfl, rfl, _, rfl, h, _, 3, 3, rfl, rfl, hh3, rfl, _, _, ⟨S'.m, S'.ca, S'.la, undS L S'.M, S'.ls.set t none⟩, rec' + L.done, rfl, ⟨upd_same, X.ih, X.im, X3.put X.ih nm3, (undA_rec hL (fun i a L e => (X2.vs.lo i a L e).2.2) ap).trans X2.un, ?_, ?_, X2.c6, X2.l3, nm3⟩, ?_, ?_, fun b hb => mu1 b (mu3 b hb)⟩
        · show adv = rec' + (L.done : Int) + dnA (S'.ls.set t none)
          rw [dnA_set hL]
          show adv = rec' + (L.done : Int) + (dnA S'.ls - ((L.done : Nat) : Int) + 0)
          have := X2.ad
          omega
        · show (S'.ls.set t none).length ≤ cnt
          rw [List.length_set]
          exact X2.ln
        · show (opn (S'.ls.set t none) (S'.ls.set t none).length).length + (i + 1) ≤ 6
          rw [List.length_set]
          have := opn_none htm
          omega
        · intro b o n e
          rw [upd_ne fun z => n (.inl z)]
          exact fr3 _ _ (fun z => n (.inr (mu1 _ z))) (f2 b o n e)
      · have c0 : ¬ ((0 : Int) < ((opn S'.ls S'.ls.length).map nV).length) := of_decide_eq_false c
        rw [List.length_map] at c0
        exact ⟨_, _, S', rec', rfl, X2, by omega, f2, mu1⟩
    · rintro σ H1 ⟨v2, v3, S', rec', rfl, X1, l1, f1, mu1⟩
      have on : opn S'.ls S'.ls.length = [] := List.length_eq_zero_iff.mp (by omega)
      have no := opn_nil on
      have eM : S'.M = M0 := by rw [← X1.un, undA_none no]
      have eR : rec' = adv := by
        have := X1.ad
        rw [dnA_none no] at this
        omega
      subst eR
      obtain ⟨dx, hv1⟩ := X1.vs.hv
      refine ⟨_, rfl, v, dx, _, rfl, hv1, vf_open, I, v, S', rfl, X1.vs, by have := X1.ln; have := X1.c6; omega, fun p H2 hp s2 hp2 => ?_⟩
      rw [on] at hp2
      refine ⟨(by show 0 ≤ sizeLine; decide), fun q hq => ?_⟩
      have s3 : Same H2 (upd H2 q (.lst [])) := Same.new hq
      have hq3 : upd H2 q (.lst []) q = some (.lst []) := upd_same
      generalize upd H2 q (.lst []) = H3 at s3 hq3
      have s13 : Same H1 H3 := s2.trans s3
      have lM : M0.length ≤ 200 := by rw [← eM]; exact X1.vs.l2
      refine ⟨p, q, [], rfl, by decide, s3 _ _ hp2, hq3, true, rfl, iteF ?_⟩
      refine ⟨_, rfl, v, dx, _, rfl, s13 _ _ hv1, v, dx, S'.ca, S'.la, S'.m, S'.M.map V.int, rfl, s13 _ _ hv1, s13 _ _ X1.vs.hc, fun p4 hp4 => ?_⟩
      have s4 : Same H3 (upd H3 p4 (.lst (S'.M.map V.int))) := Same.new hp4
      have h4 : upd H3 p4 (.lst (S'.M.map V.int)) p4 = some (.lst (M0.map V.int)) := by rw [upd_same, eM]
      generalize upd H3 p4 (.lst (S'.M.map V.int)) = H4 at s4 h4
      have s14 : Same H1 H4 := s13.trans s4
      have hh4 := s14 _ _ X1.hh
      have sI4 : Same I H4 := X1.vs.sub.trans s14
      refine ⟨_, rfl, h, _, 1, .ref mm, rfl, rfl, SqL.of hh4, rfl, p4, mm, M0, rfl, lM, h4, sI4 _ _ X1.im, true, rfl, iteF ?_⟩
      exact ⟨_, rfl, h, _, 3, .int rec', rfl, rfl, SqL.of hh4, rfl, _, rfl, h, _, 2, .int rec', rfl, rfl, SqL.of hh4, rfl, rec', rfl, kk H4 (f1.trans (Fr.of s14)) sI4⟩
end
/-! ### two houses -/
structure Hb where
  h : Addr
  v : Addr
  mm : Addr
  k : Addr
  m : Int
  M0 : List Int
structure Wd (CP CL CV : Addr) (D : DS) (A B : Hb) (SA SB : VS) (I H : Hp) : Prop where
  dr : Dr D H
  iD : I D.d = none
  iL : I D.dl = some (.lst (D.ns.map V.int))
  hA : ∃ adv rec cnt, Hs CP CL CV I H A.h A.v A.mm A.M0 SA adv rec cnt
  hB : ∃ adv rec cnt, Hs CP CL CV I H B.h B.v B.mm B.M0 SB adv rec cnt
  mA : SA.m = A.m
  mB : SB.m = B.m
  kA : Kn CP I H A.k A.m
  kB : Kn CP I H B.k B.m
  km : A.k = B.k → A.m = B.m
  a1 : D.d ≠ A.h
  a2 : D.d ≠ A.k
  a3 : A.h ≠ A.k
  a4 : A.h ≠ B.k
  a5 : ¬ Mu SA D.d
  a6 : ¬ Mu SA A.k
  a7 : ¬ Mu SA B.k
  b1 : D.d ≠ B.h
  b2 : D.d ≠ B.k
  b3 : B.h ≠ B.k
  b4 : B.h ≠ A.k
  b5 : ¬ Mu SB D.d
  b6 : ¬ Mu SB B.k
  b7 : ¬ Mu SB A.k
  c1 : A.h ≠ B.h
  c2 : ¬ Mu SA B.h
  c3 : ¬ Mu SB A.h
  c4 : ∀ b, Mu SA b → ¬ Mu SB b
section
variable {CP CL CV : Addr} {D : DS} {A B : Hb} {SA SB S' : VS} {I H I' H' : Hp}
theorem Wd.swap (W : Wd CP CL CV D A B SA SB I H) : Wd CP CL CV D B A SB SA I H :=
  ⟨W.dr, W.iD, W.iL, W.hB, W.hA, W.mB, W.mA, W.kB, W.kA, fun e => (W.km e.symm).symm, W.b1, W.b2, W.b3, W.b4, W.b5, W.b6, W.b7, W.a1, W.a2, W.a3, W.a4, W.a5, W.a6, W.a7, W.c1.symm, W.c3, W.c2, fun b h1 h2 => W.c4 b h2 h1⟩
theorem Wd.go (W : Wd CP CL CV D A B SA SB I H) (g : Go D H H') : Wd CP CL CV D A B SA SB I H' := by
  have fr : Fr (fun b => b = D.d) H H' := fun b o n e => g.but b o n e
  obtain ⟨x1, x2, x3, X⟩ := W.hA
  obtain ⟨y1, y2, y3, Y⟩ := W.hB
  have s' : Same I H' := fun b o e => g.but b o (fun z => by rw [z, W.iD] at e; cases e) (X.vs.sub _ _ e)
  exact ⟨g.dr, W.iD, W.iL, ⟨x1, x2, x3, X.away fr (Same.refl _) s' (fun _ _ e => e) W.a1.symm fun b hb z => W.a5 (by rw [← z]; exact hb)⟩, ⟨y1, y2, y3, Y.away fr (Same.refl _) s' (fun _ _ e => e) W.b1.symm fun b hb z => W.b5 (by rw [← z]; exact hb)⟩, W.mA, W.mB,
    W.kA.away fr (Same.refl _) (fun _ _ e => e) W.a2.symm, W.kB.away fr (Same.refl _) (fun _ _ e => e) W.b2.symm, W.km, W.a1, W.a2, W.a3, W.a4, W.a5, W.a6, W.a7, W.b1, W.b2, W.b3, W.b4, W.b5, W.b6, W.b7, W.c1, W.c2, W.c3, W.c4⟩
theorem Wd.move (W : Wd CP CL CV D A B SA SB I H) {adv rec : Int} {cnt : Nat} (X' : Hs CP CL CV I' H' A.h A.v A.mm A.M0 S' adv rec cnt) (hm : S'.m = A.m) (kn : Kn CP I' H' A.k A.m) (dr : Dr D H') (g : Gs D A.h A.k SA S' I H I' H') : Wd CP CL CV D A B S' SB I' H' := by
  obtain ⟨y1, y2, y3, Y⟩ := W.hB
  have dead : ∀ b, Mu S' b → (H b ≠ none → Mu SA b) := fun b hb e => (g.mu b hb).elim id fun z => absurd z e
  have lD : H D.d ≠ none := by
    obtain ⟨o, e⟩ := W.dr.some_
    rw [e]
    exact fun z => nomatch z
  have lkA : H A.k ≠ none := by
    obtain ⟨vs, e, _⟩ := W.kA.ex
    rw [e]
    exact fun z => nomatch z
  have lkB : H B.k ≠ none := by
    obtain ⟨vs, e, _⟩ := W.kB.ex
    rw [e]
    exact fun z => nomatch z
  have lhB : H B.h ≠ none := by
    rw [Y.hh]
    exact fun z => nomatch z
  have Y' : Hs CP CL CV I' H' B.h B.v B.mm B.M0 SB y1 y2 y3 := by
    refine Y.away g.fr g.sI X'.vs.sub g.nn ?_ ?_
    · rintro (z | z | z | z)
      · exact W.b1 z.symm
      · exact W.c1 z.symm
      · exact W.b4 z
      · exact W.c2 z
    · rintro b hb (z | z | z | z)
      · exact W.b5 (by rw [← z]; exact hb)
      · exact W.c3 (by rw [← z]; exact hb)
      · exact W.b7 (by rw [← z]; exact hb)
      · exact W.c4 b z hb
  have kB' : Kn CP I' H' B.k B.m := by
    by_cases c : A.k = B.k
    · rw [← c, ← W.km c]
      exact kn
    · refine W.kB.away g.fr g.sI g.nn ?_
      rintro (z | z | z | z)
      · exact W.b2 z.symm
      · exact W.a4 z.symm
      · exact c z.symm
      · exact W.a7 z
  refine ⟨dr, g.nn _ lD W.iD, g.sI _ _ W.iL, ⟨adv, rec, cnt, X'⟩, ⟨y1, y2, y3, Y'⟩, hm, W.mB, kn, kB', W.km, W.a1, W.a2, W.a3, W.a4, fun z => W.a5 (dead _ z lD), fun z => W.a6 (dead _ z lkA), fun z => W.a7 (dead _ z lkB), W.b1, W.b2, W.b3, W.b4, W.b5, W.b6, W.b7, W.c1, fun z => W.c2 (dead _ z lhB), W.c3, fun b z y => ?_⟩
  obtain ⟨o, e⟩ := Y.vs.mu_some y
  exact W.c4 b (dead b z (by rw [e]; exact fun z => nomatch z)) y
end
/-- living addresses: those that stay, those that change -/
structure Al (im mu : List Addr) (H : Hp) : Prop where
  dj : ∀ a ∈ im, a ∉ mu
  li : ∀ a ∈ im, H a ≠ none
  lm : ∀ a ∈ mu, H a ≠ none
  nm : mu.Nodup
theorem Al.add {im mu im' mu' : List Addr} {H H' : Hp} (X : Al im mu H) (hi : ∀ a ∈ im', H a = none ∧ H' a ≠ none) (hm : ∀ a ∈ mu', H a = none ∧ H' a ≠ none) (dj : ∀ a ∈ im', a ∉ mu') (nd : mu'.Nodup) (al : ∀ b, H b ≠ none → H' b ≠ none) : Al (im' ++ im) (mu' ++ mu) H' := by
  refine ⟨fun a ha hb => ?_, fun a ha => ?_, fun a ha => ?_, List.nodup_append.mpr ⟨nd, X.nm, fun a ha b hb e => ?_⟩⟩
  · rcases List.mem_append.mp ha with q | q <;> rcases List.mem_append.mp hb with r | r
    · exact dj a q r
    · exact X.lm a r (hi a q).1
    · exact X.li a q (hm a r).1
    · exact X.dj a q r
  · rcases List.mem_append.mp ha with q | q
    · exact (hi a q).2
    · exact al a (X.li a q)
  · rcases List.mem_append.mp ha with q | q
    · exact (hm a q).2
    · exact al a (X.lm a q)
  · subst e
    exact X.lm a hb (hm a ha).1
theorem Al.up {im mu : List Addr} {H H' : Hp} (X : Al im mu H) (al : ∀ b, H b ≠ none → H' b ≠ none) : Al im mu H' := ⟨X.dj, fun a ha => al a (X.li a ha), fun a ha => al a (X.lm a ha), X.nm⟩
theorem nd_ne {l : List Addr} (h : l.Nodup) (i j : Nat) {a b : Addr} (ha : l[i]? = some a) (hb : l[j]? = some b) (hij : i ≠ j) : a ≠ b := fun e => by
  subst e
  exact hij (nd_ix h ha hb)
theorem mu0 {m : Int} {ca la : Addr} {M : List Int} : ∀ b, Mu ⟨m, ca, la, M, []⟩ b → b = ca ∨ b = la := fun b h => by
  rcases h with h | h | ⟨i, L, h⟩
  · exact .inl h
  · exact .inr h
  · cases h
theorem Go.al {D : DS} {H H' : Hp} (g : Go D H H') : ∀ b, H b ≠ none → H' b ≠ none := fun b hb z => hb (g.free z)
theorem Same.al {H H' : Hp} (s : Same H H') : ∀ b, H b ≠ none → H' b ≠ none := fun b hb z => hb (s.free z)
theorem some_ne {H : Hp} {a : Addr} {o : HO} (h : H a = some o) : H a ≠ none := by
  rw [h]
  exact fun z => nomatch z
theorem Hs.zero {CP CL CV : Addr} {I H : Hp} {h v mm ca la dx : Addr} {m : Int} {M : List Int} (s : Same I H) (hv : I v = some (.ins CV dx (vf m ca la))) (hmm : I mm = some (.lst (M.map V.int))) (ih : I h = none) (ic : I ca = none) (il : I la = none)
    (hh : H h = some (.lst [.ref v, .ref mm, .int 0, .int 0, .int 0])) (hc : H ca = some (.lst (M.map V.int))) (hl : H la = some (.lst [])) (m2 : 2 ≤ m) (m9 : m ≤ 1000000000) (R : Rng m M) (l3 : 3 ≤ M.length) (l2 : M.length ≤ 200) (n1 : h ≠ ca) (n2 : h ≠ la) :
    Hs CP CL CV I H h v mm M ⟨m, ca, la, M, []⟩ 0 0 0 :=
  ⟨hh, ih, hmm, ⟨s, ⟨dx, hv⟩, hc, ic, hl, il, (fun i a L e => nomatch e), (fun i j a L L' e => nomatch e), m2, m9, R, (by show 1 ≤ M.length; omega), l2⟩, rfl, rfl, Nat.le_refl 0, by decide, l3, fun z => (mu0 _ z).elim n1 n2⟩
def imp (im : List Addr) (H : Hp) : Hp := fun b => if b ∈ im then H b else none
theorem imp_in {im : List Addr} {H : Hp} {b : Addr} (h : b ∈ im) : imp im H b = H b := if_pos h
theorem imp_out {im : List Addr} {H : Hp} {b : Addr} (h : b ∉ im) : imp im H b = none := if_neg h
theorem imp_sub {im : List Addr} {H : Hp} : Same (imp im H) H := fun b o e => by
  unfold imp at e
  split at e
  · exact e
  · cases e
theorem Al.out {im mu : List Addr} {H H' : Hp} (X : Al im mu H) {b : Addr} (h : b ∈ mu) : imp im H' b = none := imp_out fun z => X.dj b z h
theorem Wd.init {CP CL CV : Addr} {D : DS} {H : Hp} {ml hl kl h1 v1 mm1 ca1 la1 dx1 h2 v2 mm2 ca2 la2 dx2 k1 k2 kB : Addr} {m1 m2 : Int} {M1 M2 : List Int} (hD : Dr D H) (al : Al [kl, hl, mm2, v2, mm1, v1, ml, D.dl] [k2, k1, h2, ca2, la2, h1, ca1, la1, D.d] H)
    (hh1 : H h1 = some (.lst [.ref v1, .ref mm1, .int 0, .int 0, .int 0])) (hv1 : H v1 = some (.ins CV dx1 (vf m1 ca1 la1))) (hm1 : H mm1 = some (.lst (M1.map V.int))) (hc1 : H ca1 = some (.lst (M1.map V.int))) (hl1 : H la1 = some (.lst []))
    (hh2 : H h2 = some (.lst [.ref v2, .ref mm2, .int 0, .int 0, .int 0])) (hv2 : H v2 = some (.ins CV dx2 (vf m2 ca2 la2))) (hm2 : H mm2 = some (.lst (M2.map V.int))) (hc2 : H ca2 = some (.lst (M2.map V.int))) (hl2 : H la2 = some (.lst []))
    (p1 : 2 ≤ m1) (q1 : m1 ≤ 1000000000) (p2 : 2 ≤ m2) (q2 : m2 ≤ 1000000000) (R1 : Rng m1 M1) (R2 : Rng m2 M2) (l1 : 3 ≤ M1.length) (t1 : M1.length ≤ 200) (l2 : 3 ≤ M2.length) (t2 : M2.length ≤ 200)
    (hk1 : H k1 = some (.lst [])) (hk2 : H k2 = some (.lst [])) (hkB : kB = k1 ∧ m1 = m2 ∨ kB = k2) :
    ∃ I, Wd CP CL CV D ⟨h1, v1, mm1, k1, m1, M1⟩ ⟨h2, v2, mm2, kB, m2, M2⟩ ⟨m1, ca1, la1, M1, []⟩ ⟨m2, ca2, la2, M2, []⟩ I H ∧ I ml = H ml ∧ I hl = H hl ∧ I kl = H kl := by
  have N : ∀ (i j : Nat) {a b : Addr}, [k2, k1, h2, ca2, la2, h1, ca1, la1, D.d][i]? = some a → [k2, k1, h2, ca2, la2, h1, ca1, la1, D.d][j]? = some b → i ≠ j → a ≠ b := fun i j {a b} ha hb hij => nd_ne al.nm i j ha hb hij
  have kb : kB ∈ [k2, k1] := by
    rcases hkB with ⟨e, _⟩ | e
    · rw [e]; exact .tail _ (.head _)
    · rw [e]; exact .head _
  have kbM : kB ∈ [k2, k1, h2, ca2, la2, h1, ca1, la1, D.d] := List.mem_append_left (bs := [h2, ca2, la2, h1, ca1, la1, D.d]) kb
  have kbh : H kB = some (.lst []) := by
    rcases hkB with ⟨e, _⟩ | e
    · rw [e]; exact hk1
    · rw [e]; exact hk2
  have NK : ∀ b, b ∈ [h2, ca2, la2, h1, ca1, la1, D.d] → b ≠ kB ∧ b ≠ k1 := fun b hb => by
    have hn := al.nm
    have hd : ([k2, k1] ++ [h2, ca2, la2, h1, ca1, la1, D.d]).Nodup := hn
    have q := (List.nodup_append.mp hd).2.2
    exact ⟨fun e => q kB kb b hb e.symm, fun e => q k1 (.tail _ (.head _)) b hb e.symm⟩
  have i0 : h2 ∈ [h2, ca2, la2, h1, ca1, la1, D.d] := .head _
  have i1 : ca2 ∈ [h2, ca2, la2, h1, ca1, la1, D.d] := .tail _ (.head _)
  have i2 : la2 ∈ [h2, ca2, la2, h1, ca1, la1, D.d] := .tail _ (.tail _ (.head _))
  have i3 : h1 ∈ [h2, ca2, la2, h1, ca1, la1, D.d] := .tail _ (.tail _ (.tail _ (.head _)))
  have i4 : ca1 ∈ [h2, ca2, la2, h1, ca1, la1, D.d] := .tail _ (.tail _ (.tail _ (.tail _ (.head _))))
  have i5 : la1 ∈ [h2, ca2, la2, h1, ca1, la1, D.d] := .tail _ (.tail _ (.tail _ (.tail _ (.tail _ (.head _)))))
  have i6 : D.d ∈ [h2, ca2, la2, h1, ca1, la1, D.d] := .tail _ (.tail _ (.tail _ (.tail _ (.tail _ (.tail _ (.head _))))))
  have out : ∀ b, b ∈ [h2, ca2, la2, h1, ca1, la1, D.d] → imp [kl, hl, mm2, v2, mm1, v1, ml, D.dl] H b = none := fun b hb => al.out (List.mem_append_right [k2, k1] hb)
  refine ⟨imp [kl, hl, mm2, v2, mm1, v1, ml, D.dl] H, ⟨hD, out _ i6, (imp_in (by simp)).trans hD.ls, ⟨0, 0, 0, Hs.zero imp_sub ((imp_in (by simp)).trans hv1) ((imp_in (by simp)).trans hm1) (out _ i3) (out _ i4) (out _ i5) hh1 hc1 hl1 p1 q1 R1 l1 t1 (N 5 6 rfl rfl (by decide)) (N 5 7 rfl rfl (by decide))⟩,
    ⟨0, 0, 0, Hs.zero imp_sub ((imp_in (by simp)).trans hv2) ((imp_in (by simp)).trans hm2) (out _ i0) (out _ i1) (out _ i2) hh2 hc2 hl2 p2 q2 R2 l2 t2 (N 2 3 rfl rfl (by decide)) (N 2 4 rfl rfl (by decide))⟩, rfl, rfl,
    ⟨⟨[], hk1, by decide, fun _ z => nomatch z⟩, al.out (.tail _ (.head _))⟩, ⟨⟨[], kbh, by decide, fun _ z => nomatch z⟩, al.out kbM⟩, ?_, N 8 5 rfl rfl (by decide), (NK _ i6).2, (NK _ i3).2, (NK _ i3).1, ?_, ?_, ?_, N 8 2 rfl rfl (by decide), (NK _ i6).1, (NK _ i0).1, (NK _ i0).2, ?_, ?_, ?_, N 5 2 rfl rfl (by decide), ?_, ?_, ?_⟩, imp_in (by simp), imp_in (by simp), imp_in (by simp)⟩
  · intro e
    rcases hkB with ⟨_, e'⟩ | e'
    · exact e'
    · exact absurd (e.trans e') (N 1 0 rfl rfl (by decide))
  · exact fun z => (mu0 _ z).elim (N 8 6 rfl rfl (by decide)) (N 8 7 rfl rfl (by decide))
  · exact fun z => (mu0 _ z).elim (fun e => (NK _ i4).2 e.symm) fun e => (NK _ i5).2 e.symm
  · exact fun z => (mu0 _ z).elim (fun e => (NK _ i4).1 e.symm) fun e => (NK _ i5).1 e.symm
  · exact fun z => (mu0 _ z).elim (N 8 3 rfl rfl (by decide)) (N 8 4 rfl rfl (by decide))
  · exact fun z => (mu0 _ z).elim (fun e => (NK _ i1).1 e.symm) fun e => (NK _ i2).1 e.symm
  · exact fun z => (mu0 _ z).elim (fun e => (NK _ i1).2 e.symm) fun e => (NK _ i2).2 e.symm
  · exact fun z => (mu0 _ z).elim (N 2 6 rfl rfl (by decide)) (N 2 7 rfl rfl (by decide))
  · exact fun z => (mu0 _ z).elim (N 5 3 rfl rfl (by decide)) (N 5 4 rfl rfl (by decide))
  · intro b y z
    rcases mu0 _ y with e | e <;> rcases mu0 _ z with e' | e'
    · exact N 6 3 rfl rfl (by decide) (e.symm.trans e')
    · exact N 6 4 rfl rfl (by decide) (e.symm.trans e')
    · exact N 7 3 rfl rfl (by decide) (e.symm.trans e')
    · exact N 7 4 rfl rfl (by decide) (e.symm.trans e')
def st1 : TS := fun E σ H => ∃ (s0 : V) (D : DS) (ml : Addr) (m1 m2 : Int) (b : Bool), (∀ H', E.rt (.bl true) H') ∧ σ = [some s0, some (.ref D.d), some (.ref ml), some (.bl b), none, none, none, none] ∧ Dr D H ∧ H ml = some (.lst [.int m1, .int m2]) ∧ ml ≠ D.d ∧ (b = true → m1 = m2) ∧
  2 ≤ m1 ∧ m1 ≤ 1000000000 ∧ 2 ≤ m2 ∧ m2 ≤ 1000000000
def st2 (CP CL CV : Addr) : TS := fun E σ H => ∃ (s0 : V) (D : DS) (ml hl kl : Addr) (b : Bool) (A B : Hb) (SA SB : VS) (I : Hp), (∀ H', E.rt (.bl true) H') ∧ σ = [some s0, some (.ref D.d), some (.ref ml), some (.bl b), some (.ref hl), some (.ref kl), none, none] ∧
  Wd CP CL CV D A B SA SB I H ∧ I ml = some (.lst [.int A.m, .int B.m]) ∧ I hl = some (.lst [.ref A.h, .ref B.h]) ∧ I kl = some (.lst [.ref A.k, .ref B.k])
theorem Al.im1 {im mu : List Addr} {H H' : Hp} (X : Al im mu H) {a : Addr} {o : HO} (h : H a = none) (h' : H' a = some o) (al : ∀ b, H b ≠ none → H' b ≠ none) : Al (a :: im) mu H' :=
  X.add (im' := [a]) (mu' := []) (fun b hb => by rw [List.mem_singleton.mp hb]; exact ⟨h, some_ne h'⟩) (fun b hb => nomatch hb) (fun b _ hb => nomatch hb) List.nodup_nil al
theorem Al.mu1 {im mu : List Addr} {H H' : Hp} (X : Al im mu H) {a : Addr} {o : HO} (h : H a = none) (h' : H' a = some o) (al : ∀ b, H b ≠ none → H' b ≠ none) : Al im (a :: mu) H' :=
  X.add (im' := []) (mu' := [a]) (fun b hb => nomatch hb) (fun b hb => by rw [List.mem_singleton.mp hb]; exact ⟨h, some_ne h'⟩) (fun b hb _ => nomatch hb) (List.nodup_cons.mpr ⟨List.not_mem_nil, List.nodup_nil⟩) al
theorem house_al {im mu : List Addr} {H H' : Hp} {h v mm ca la : Addr} {o1 o2 o3 o4 o5 : HO} (X : Al im mu H) (nd : [h, v, mm, ca, la].Nodup) (n1 : H h = none) (n2 : H v = none) (n3 : H mm = none) (n4 : H ca = none) (n5 : H la = none)
    (e1 : H' h = some o1) (e2 : H' v = some o2) (e3 : H' mm = some o3) (e4 : H' ca = some o4) (e5 : H' la = some o5) (al : ∀ b, H b ≠ none → H' b ≠ none) : Al (mm :: v :: im) (h :: ca :: la :: mu) H' := by
  refine X.add (im' := [mm, v]) (mu' := [h, ca, la]) (fun b hb => ?_) (fun b hb => ?_) (fun b hb hc => ?_) (nd.sublist (.cons₂ _ (.cons _ (.cons _ (.cons₂ _ (.cons₂ _ .slnil)))))) al
  · rcases List.mem_cons.mp hb with q | q
    · rw [q]; exact ⟨n3, some_ne e3⟩
    · rw [List.mem_singleton.mp q]; exact ⟨n2, some_ne e2⟩
  · rcases List.mem_cons.mp hb with q | q
    · rw [q]; exact ⟨n1, some_ne e1⟩
    · rcases List.mem_cons.mp q with q | q
      · rw [q]; exact ⟨n4, some_ne e4⟩
      · rw [List.mem_singleton.mp q]; exact ⟨n5, some_ne e5⟩
  · have hc' : b = h ∨ b = ca ∨ b = la := by
      rcases List.mem_cons.mp hc with q | q
      · exact .inl q
      · rcases List.mem_cons.mp q with q | q
        · exact .inr (.inl q)
        · exact .inr (.inr (List.mem_singleton.mp q))
    rcases List.mem_cons.mp hb with q | q
    · subst q
      rcases hc' with z | z | z
      · exact nd_ne nd 2 0 rfl rfl (by decide) z
      · exact nd_ne nd 2 3 rfl rfl (by decide) z
      · exact nd_ne nd 2 4 rfl rfl (by decide) z
    · have q := List.mem_singleton.mp q
      subst q
      rcases hc' with z | z | z
      · exact nd_ne nd 1 0 rfl rfl (by decide) z
      · exact nd_ne nd 1 3 rfl rfl (by decide) z
      · exact nd_ne nd 1 4 rfl rfl (by decide) z
section
variable {P : Program} {w : World} {K : PySem.W.Frag} {mg : Str → Option Value} {base : Heap}
/-! ### law -/
def spLaw (K : PySem.W.Frag) : Sp := fun vs H Q _ => ∃ (a : Addr) (ns : List Int), vs = [.ref a] ∧ SqL K H a (ns.map V.int) ∧ ns.length ≤ 63 ∧ ∀ H', Q (.bl true) H'
abbrev N_law : List Str := ["_law_script", "_law_draws", "_law_moduli", "_law_same", "_law_houses", "_law_known", "_law_turn", "_law_at"]
theorem sc_law : FnScope N_law ["_law_script"] (defScope sLaw) := ⟨rfl, rfl, rfl, by decide +kernel, rfl, by decide +kernel, by decide +kernel⟩
theorem ok_law (T : Top K mg) : FnOk P w K mg base CX0 10 T.law.f T.law.fd ["_law_script"] (spLaw K) := by
  refine T.law.F.ok sc_law (fun vs H Q E h => ?_) (fun cdv A outer s H vs Q E hr h => ?_)
  · obtain ⟨a, ns, rfl, _⟩ := h
    rfl
  · obtain ⟨a, ns, rfl, hs, l63, kk⟩ := h
    refine ⟨_, (pss_cons (ps_set (i := 1) sc_law.nd rfl (Or.inl rfl) (pe_lst (pa_cons (pe_call (ok_LNumbers T) (hr.mono (by decide)) rfl T.LNumbers.g T.LNumbers.kp T.LNumbers.b .nil pass0 (pa_cons (pv 0) pa_nil)) (pa_cons pe_int pa_nil))))
      (pss_cons (ps_set (i := 2) sc_law.nd rfl (Or.inl rfl) (pe_lst (pa_cons (pe_call (ok_LModulus T) (hr.mono (by decide)) rfl T.LModulus.g T.LModulus.kp T.LModulus.b .nil pass0 (pa_cons (pv 1) pa_nil)) (pa_cons (pe_call (ok_LModulus T) (hr.mono (by decide)) rfl T.LModulus.g T.LModulus.kp T.LModulus.b .nil pass0 (pa_cons (pv 1) pa_nil)) pa_nil))))
      (pss_cons (ps_set (i := 3) sc_law.nd rfl (Or.inl rfl) (pe_cmpR op_eq (pe_op op_mod (pe_call (ok_LDraw T) (hr.mono (by decide)) rfl T.LDraw.g T.LDraw.kp T.LDraw.b .nil pass0 (pa_cons (pv 1) pa_nil)) pe_int) pe_int (nomark _)))
      (pss_cons (ps_if (pt_val (pv 3)) (pss_one (ps_asg (pe_ix ix_list (pv 2) pe_int (fun _ _ => rfl)) (pg_sub (pv 2) pe_int set_list))) pss_nil)
      (PSs.weak (t' := st1) (pss_cons (ps_set (i := 4) sc_law.nd rfl (Or.inl rfl) (pe_lst (pa_cons (pe_call (ok_LHouse T) (hr.mono (by decide)) rfl T.LHouse.g T.LHouse.kp T.LHouse.b .nil pass0 (pa_cons (pv 1) (pa_cons (pe_ix ix_list (pv 2) pe_int (fun _ _ => rfl)) pa_nil))) (pa_cons (pe_call (ok_LHouse T) (hr.mono (by decide)) rfl T.LHouse.g T.LHouse.kp T.LHouse.b .nil pass0 (pa_cons (pv 1) (pa_cons (pe_ix ix_list (pv 2) pe_int (fun _ _ => rfl)) pa_nil))) pa_nil))))
      (pss_cons (ps_set (i := 5) sc_law.nd rfl (Or.inl rfl) (pe_lst (pa_cons (pe_lst pa_nil) (pa_cons (pe_lst pa_nil) pa_nil))))
      (pss_cons (ps_if (pt_val (pv 3)) (pss_one (ps_asg (pe_ix ix_list (pv 5) pe_int (fun _ _ => rfl)) (pg_sub (pv 5) pe_int set_list))) pss_nil)
      (PSs.weak (t' := st2 T.cProgram.C T.cLoan.C T.cVault.C) (pss_cons (ps_for PassesOwn.never rfl (pi_range1 rfl T.zrange (pa_cons (pe_op op_mod (pe_call (ok_LDraw T) (hr.mono (by decide)) rfl T.LDraw.g T.LDraw.kp T.LDraw.b .nil pass0 (pa_cons (pv 1) pa_nil)) pe_int) pa_nil)) (pg_name (i := 6) sc_law.nd rfl (Or.inl rfl)) (pss_cons (ps_set (i := 7) sc_law.nd rfl (Or.inl rfl) (pe_op op_mod (pe_call (ok_LDraw T) (hr.mono (by decide)) rfl T.LDraw.g T.LDraw.kp T.LDraw.b .nil pass0 (pa_cons (pv 1) pa_nil)) pe_int))
          (pss_one (ps_expr (pe_call (ok_LMove T) (hr.mono (by decide)) rfl T.LMove.g T.LMove.kp T.LMove.b .nil pass0 (pa_cons (pv 1) (pa_cons (pe_ix ix_list (pv 4) (pv 7) (fun _ _ => rfl)) (pa_cons (pe_ix ix_list (pv 2) (pv 7) (fun _ _ => rfl)) (pa_cons (pe_ix ix_list (pv 5) (pv 7) (fun _ _ => rfl)) pa_nil)))))))))
      (pss_one (ps_ret (pe_and (pe_call (ok_LGivenBack T) (hr.mono (by decide)) rfl T.LGivenBack.g T.LGivenBack.kp T.LGivenBack.b .nil pass0 (pa_cons (pe_ix ix_list (pv 4) pe_int (fun _ _ => rfl)) pa_nil)) (pe_one (pe_call (ok_LGivenBack T) (hr.mono (by decide)) rfl T.LGivenBack.g T.LGivenBack.kp T.LGivenBack.b .nil pass0 (pa_cons (pe_ix ix_list (pv 4) pe_int (fun _ _ => rfl)) pa_nil))))))) (by
        rintro E' σ H1 ⟨s0, D, ml, hl, kl, b, A, B, SA, SB, I, eE, rfl, W, iml, ihl, ikl⟩
        refine ⟨_, rfl, D, rfl, W.dr, fun r H2 r0 r1 g2 => ⟨r, 31, rfl, rfl, (by show (0 : Int) < 31; decide), r % 31, rfl, by omega, by omega, for_range (lo := 0) (n := (r % 31).toNat) (fun i σ H' => ∃ (v6 v7 : Option V) (I : Hp) (SA SB : VS), σ = [some s0, some (.ref D.d), some (.ref ml), some (.bl b), some (.ref hl), some (.ref kl), v6, v7] ∧
            Wd T.cProgram.C T.cLoan.C T.cVault.C D A B SA SB I H' ∧ I ml = some (.lst [.int A.m, .int B.m]) ∧ I hl = some (.lst [.ref A.h, .ref B.h]) ∧ I kl = some (.lst [.ref A.k, .ref B.k])) ⟨none, none, I, SA, SB, rfl, W.go g2, iml, ihl, ikl⟩ ?_ ?_⟩⟩
        · clear W iml ihl ikl
          rintro i σ H3 hi ⟨v6, v7, I, SA, SB, rfl, W, iml, ihl, ikl⟩
          refine ⟨_, rfl, D, rfl, W.dr, fun a H4 a0 a1 g4 => ⟨a, 2, rfl, rfl, (by show (0 : Int) < 2; decide), ?_⟩⟩
          have W4 := W.go g4
          obtain ⟨adv, rec, cnt, X⟩ := W4.hA
          obtain ⟨advB, recB, cntB, Y⟩ := W4.hB
          have s := X.vs.sub
          have hx : a % 2 = 0 ∨ a % 2 = 1 := by omega
          dsimp only
          rcases hx with e | e
          · rw [e]
            exact ⟨_, rfl, _, rfl, _, rfl, hl, _, 0, .ref A.h, rfl, rfl, SqL.of (s _ _ ihl), rfl, _, rfl, _, rfl, ml, _, 0, .int A.m, rfl, rfl, SqL.of (s _ _ iml), rfl, _, rfl, _, rfl, kl, _, 0, .ref A.k, rfl, rfl, SqL.of (s _ _ ikl), rfl, D, I, A.h, A.k, A.v, A.mm, A.m, A.M0, SA, adv, rec, cnt, rfl, W4.dr, W4.iD, W4.iL, X, W4.mA, W4.kA, W4.a1, W4.a2, W4.a3, W4.a5, W4.a6,
              fun I' S' adv' rec' cnt' H' X' hm' kn' dr' g' => ⟨_, _, I', S', SB, rfl, W4.move X' hm' kn' dr' g', g'.sI _ _ iml, g'.sI _ _ ihl, g'.sI _ _ ikl⟩⟩
          · rw [e]
            exact ⟨_, rfl, _, rfl, _, rfl, hl, _, 1, .ref B.h, rfl, rfl, SqL.of (s _ _ ihl), rfl, _, rfl, _, rfl, ml, _, 1, .int B.m, rfl, rfl, SqL.of (s _ _ iml), rfl, _, rfl, _, rfl, kl, _, 1, .ref B.k, rfl, rfl, SqL.of (s _ _ ikl), rfl, D, I, B.h, B.k, B.v, B.mm, B.m, B.M0, SB, advB, recB, cntB, rfl, W4.dr, W4.iD, W4.iL, Y, W4.mB, W4.kB, W4.b1, W4.b2, W4.b3, W4.b5, W4.b6,
              fun I' S' adv' rec' cnt' H' X' hm' kn' dr' g' => ⟨_, _, I', SA, S', rfl, (W4.swap.move X' hm' kn' dr' g').swap, g'.sI _ _ iml, g'.sI _ _ ihl, g'.sI _ _ ikl⟩⟩
        · clear W iml ihl ikl
          rintro σ H3 ⟨v6, v7, I, SA, SB, rfl, W, iml, ihl, ikl⟩
          obtain ⟨adv, rec, cnt, X⟩ := W.hA
          obtain ⟨advB, recB, cntB, Y⟩ := W.hB
          refine ⟨_, rfl, hl, _, 0, .ref A.h, rfl, rfl, SqL.of (X.vs.sub _ _ ihl), rfl, I, A.h, A.v, A.mm, A.M0, SA, adv, rec, cnt, rfl, X, fun H4 fr4 s4 => ⟨true, rfl, iteT ?_⟩⟩
          have Y4 := Y.away fr4 (Same.refl _) s4 (fun _ _ e => e) (fun z => z.elim (fun z => W.c1 z.symm) W.c2) fun b hb z => z.elim (fun z => W.c3 (by rw [← z]; exact hb)) fun z => W.c4 b z hb
          exact ⟨_, rfl, hl, _, 1, .ref B.h, rfl, rfl, SqL.of (s4 _ _ ihl), rfl, I, B.h, B.v, B.mm, B.M0, SB, advB, recB, cntB, rfl, Y4, fun H5 _ _ => eE H5⟩
        )))))
        (by
        rintro E' σ H1 ⟨s0, D, ml, m1, m2, b, eE, rfl, dr, hml, nml, hb, p1, q1, p2, q2⟩
        obtain ⟨oD, lD⟩ := dr.some_
        have al1 : Al [ml, D.dl] [D.d] H1 := by
          refine ⟨fun a ha hm => ?_, fun a ha => ?_, fun a ha => ?_, List.nodup_cons.mpr ⟨List.not_mem_nil, List.nodup_nil⟩⟩
          · rcases List.mem_cons.mp ha with q | q
            · exact nml (q.symm.trans (List.mem_singleton.mp hm))
            · exact dr.ne ((List.mem_singleton.mp q).symm.trans (List.mem_singleton.mp hm))
          · rcases List.mem_cons.mp ha with q | q
            · rw [q]; exact some_ne hml
            · rw [List.mem_singleton.mp q]; exact some_ne dr.ls
          · rw [List.mem_singleton.mp ha]; exact some_ne lD
        refine ⟨_, rfl, _, rfl, ml, _, 0, .int m1, rfl, rfl, SqL.of hml, rfl, D, m1, rfl, dr, p1, q1, fun h1 v1 mm1 ca1 la1 dx1 M1 H2 g2 n1 n2 n3 n4 n5 nd1 e1 e2 e3 e4 e5 R1 l1 t1 => ?_⟩
        have al2 := house_al al1 nd1 n1 n2 n3 n4 n5 e1 e2 e3 e4 e5 g2.al
        have hml2 := g2.but ml _ nml hml
        refine ⟨_, rfl, _, rfl, ml, _, 1, .int m2, rfl, rfl, SqL.of hml2, rfl, D, m2, rfl, g2.dr, p2, q2, fun h2 v2 mm2 ca2 la2 dx2 M2 H3 g3 n1' n2' n3' n4' n5' nd2 f1 f2 f3 f4 f5 R2 l2 t2 => ⟨(by show 2 ≤ sizeLine; decide), fun hl hhl => ?_⟩⟩
        have al3 := house_al al2 nd2 n1' n2' n3' n4' n5' f1 f2 f3 f4 f5 g3.al
        have hml3 := g3.but ml _ nml hml2
        have e1 := g3.but _ _ (dr.apart n1).1 e1
        have e2 := g3.but _ _ (dr.apart n2).1 e2
        have e3 := g3.but _ _ (dr.apart n3).1 e3
        have e4 := g3.but _ _ (dr.apart n4).1 e4
        have e5 := g3.but _ _ (dr.apart n5).1 e5
        have s34 : Same H3 (upd H3 hl (.lst [.ref h1, .ref h2])) := Same.new hhl
        have h4 : upd H3 hl (.lst [.ref h1, .ref h2]) hl = some (.lst [.ref h1, .ref h2]) := upd_same
        have al4 := al3.im1 hhl h4 (Same.al s34)
        generalize upd H3 hl (.lst [.ref h1, .ref h2]) = H4 at s34 h4 al4
        refine ⟨(by show 0 ≤ sizeLine; decide), fun k1 hk1 => ?_⟩
        have s45 : Same H4 (upd H4 k1 (.lst [])) := Same.new hk1
        have h5 : upd H4 k1 (.lst []) k1 = some (.lst []) := upd_same
        have al5 := al4.mu1 hk1 h5 (Same.al s45)
        generalize upd H4 k1 (.lst []) = H5 at s45 h5 al5
        refine ⟨(by show 0 ≤ sizeLine; decide), fun k2 hk2 => ?_⟩
        have s56 : Same H5 (upd H5 k2 (.lst [])) := Same.new hk2
        have h6 : upd H5 k2 (.lst []) k2 = some (.lst []) := upd_same
        have al6 := al5.mu1 hk2 h6 (Same.al s56)
        generalize upd H5 k2 (.lst []) = H6 at s56 h6 al6
        refine ⟨(by show 2 ≤ sizeLine; decide), fun kl hkl => ?_⟩
        have s46 : Same H4 H6 := s45.trans s56
        have s36 : Same H3 H6 := s34.trans s46
        have dr6 : Dr D H6 := g3.dr.same s36
        have fin : ∀ (H8 : Hp) (kB : Addr), Same H6 H8 → H8 kl = some (.lst [.ref k1, .ref kB]) → (kB = k1 ∧ m1 = m2 ∨ kB = k2) →
            st2 T.cProgram.C T.cLoan.C T.cVault.C E' [some s0, some (.ref D.d), some (.ref ml), some (.bl b), some (.ref hl), some (.ref kl), none, none] H8 := fun H8 kB s68 h8 hkB => by
          have s38 := s36.trans s68
          have al8 := al6.im1 hkl h8 (Same.al s68)
          obtain ⟨I, W, i1, i2, i3⟩ := Wd.init (CP := T.cProgram.C) (CL := T.cLoan.C) (CV := T.cVault.C) (dr6.same s68) al8 (s38 _ _ e1) (s38 _ _ e2) (s38 _ _ e3) (s38 _ _ e4) (s38 _ _ e5) (s38 _ _ f1) (s38 _ _ f2) (s38 _ _ f3) (s38 _ _ f4) (s38 _ _ f5) p1 q1 p2 q2 R1 R2 l1 t1 l2 t2 (s68 _ _ (s56 _ _ h5)) (s68 _ _ h6) hkB
          exact ⟨s0, D, ml, hl, kl, b, _, _, _, _, I, eE, rfl, W, i1.trans (s38 _ _ hml3), i2.trans (s68 _ _ (s46 _ _ h4)), i3.trans h8⟩
        refine ⟨_, rfl, b, rfl, ifb (fun hbt => ?_) fun _ => fin _ k2 (Same.new hkl) upd_same (.inr rfl)⟩
        refine ⟨_, rfl, kl, _, 0, .ref k1, rfl, rfl, SqL.of upd_same, rfl, _, rfl, kl, _, 1, 1, rfl, rfl, upd_same, rfl, ?_⟩
        exact fin _ k1 ((Same.new hkl).rewr hkl) upd_same (.inl ⟨rfl, hb hbt⟩)
        )))))), ?_⟩
    refine ⟨_, rfl, a, ns, rfl, hs, l63, fun p ms H1 hp s1 hp1 hms => ⟨(by show 2 ≤ sizeLine; decide), fun d hd => ?_⟩⟩
    have dr2 : Dr ⟨d, p, ms⟩ (upd H1 d (.lst [.ref p, .int 0])) := ⟨⟨0, upd_same⟩, by rw [upd_ne (ne_of_none hp1 hd)]; exact hp1, hms⟩
    refine ⟨_, rfl, ⟨d, p, ms⟩, rfl, dr2, fun m1 H3 p1 q1 g3 => ⟨_, rfl, ⟨d, p, ms⟩, rfl, g3.dr, fun m2 H4 p2 q2 g4 => ⟨(by show 2 ≤ sizeLine; decide), fun ml hml => ?_⟩⟩⟩
    have dr5 : Dr ⟨d, p, ms⟩ (upd H4 ml (.lst [.int m1, .int m2])) := g4.dr.same (Same.new hml)
    have nml := g4.dr.apart hml
    refine ⟨_, rfl, ⟨d, p, ms⟩, rfl, dr5, fun r H6 r0 r1 g6 => ⟨r, 2, rfl, rfl, (by show (0 : Int) < 2; decide), rfl, ?_⟩⟩
    have h6 : H6 ml = some (.lst [.int m1, .int m2]) := g6.but ml _ nml.1 upd_same
    refine ⟨_, rfl, _, rfl, ifb (fun hb => ⟨_, rfl, ml, _, 0, .int m1, rfl, rfl, SqL.of h6, rfl, _, rfl, ml, _, 1, 1, rfl, rfl, h6, rfl, ?_⟩) fun hb => ?_⟩
    · have fr : Fr (fun b => b = ml) H6 (upd H6 ml (.lst [.int m1, .int m1])) := fun b o n e => by rw [upd_ne n]; exact e
      obtain ⟨j, q⟩ := g6.dr.at_
      have dr7 : Dr ⟨d, p, ms⟩ (upd H6 ml (.lst [.int m1, .int m1])) := ⟨⟨j, fr _ _ (fun z => nml.1 z.symm) q⟩, fr _ _ (fun z => nml.2 z.symm) g6.dr.ls, g6.dr.ok⟩
      exact ⟨_, ⟨d, p, ms⟩, ml, m1, m1, _, kk, rfl, dr7, upd_same, nml.1, fun _ => rfl, p1, q1, p1, q1⟩
    · exact ⟨_, ⟨d, p, ms⟩, ml, m1, m2, _, kk, rfl, g6.dr, h6, nml.1, (fun z => by rw [hb] at z; cases z), p1, q1, p2, q2⟩
theorem spLaw_start : ∀ (K : PySem.W.Frag) (H : Hp) (a : Addr) (ns : List Int), ns.length ≤ 63 → Only H → SqL K H a (ns.map V.int) → spLaw K [.ref a] H (fun v _ => v = .bl true) fun _ _ _ => False :=
  fun K H a ns h1 _ h2 => ⟨a, ns, rfl, h2, h1, fun _ => rfl⟩
end
end Bk
namespace Bk
open PySem PySem.Spec PyProof.Rows L2
section
variable {K : PySem.W.Frag} {h : Heap} {mg : Str → Option Value} {x qual : Str} {st : Stmt} {ps : List Str} {f C p : Addr} {od an : Option Addr} {sl : Array (Option Value)} {oc kV dc pm cd ct : Value}
theorem mkG (X : K.In h) (G : h.Ns mainGlobals mg) (a : PySem.W.nsIn K mainGlobals x = some (some (.ref f)))
    (l : K.lookup f = some ⟨oc, od, .func (PySem.W.fnOf x x (defArgs st) (defBody st) (defScope st) .none kV dc pm an cd ct), sl⟩) (c : PySem.W.codeIn K cd x = true) (k : PySem.W.keepIn K (.ref f) = true)
    (hb : ∀ (kV doc pm : Value) (an : Option Addr) (cdv ct : Value) (us : List Value), us.length = ps.length → bindArgs (PySem.W.fnOf x x (defArgs st) (defBody st) (defScope st) .none kV doc pm an cdv ct) ⟨us, []⟩ = pure (ps.zip us)) :
    ∃ d : Gd K mg x st ps, d.f = f := ⟨⟨⟨f, _, fun_mk l c k, hb _ _ _ _ _ _⟩, PySem.W.mg_of X G a⟩, rfl⟩
theorem mkM (a : PySem.W.findIn K (.ref C) x = some (some (.ref f))) (i : PySem.W.isFn K (.ref f) = true)
    (l : K.lookup f = some ⟨oc, od, .func (PySem.W.fnOf x qual (defArgs st) (defBody st) (defScope st) .none kV dc pm an cd ct), sl⟩) (c : PySem.W.codeIn K cd qual = true) (k : PySem.W.keepIn K (.ref f) = true)
    (hb : ∀ (kV doc pm : Value) (an : Option Addr) (cdv ct : Value) (us : List Value), us.length = ps.length → bindArgs (PySem.W.fnOf x qual (defArgs st) (defBody st) (defScope st) .none kV doc pm an cdv ct) ⟨us, []⟩ = pure (ps.zip us)) :
    Nonempty (Md K C x qual st ps) := ⟨⟨⟨f, _, fun_mk l c k, hb _ _ _ _ _ _⟩, ⟨a, i, k⟩⟩⟩
theorem mkI (mk : PySem.W.makesIn K C = true) (kC : PySem.W.keepIn K (.ref C) = true) (a : PySem.W.findIn K (.ref C) "__init__" = some (some (.ref f))) (i : PySem.W.isFn K (.ref f) = true)
    (l : K.lookup f = some ⟨oc, od, .func (PySem.W.fnOf "__init__" qual (defArgs st) (defBody st) (defScope st) .none kV dc pm an cd ct), sl⟩) (c : PySem.W.codeIn K cd qual = true) (k : PySem.W.keepIn K (.ref f) = true)
    (hb : ∀ (kV doc pm : Value) (an : Option Addr) (cdv ct : Value) (us : List Value), us.length = ps.length → bindArgs (PySem.W.fnOf "__init__" qual (defArgs st) (defBody st) (defScope st) .none kV doc pm an cdv ct) ⟨us, []⟩ = pure (ps.zip us)) :
    Nonempty (Id K C qual st ps) := ⟨⟨⟨f, _, fun_mk l c k, hb _ _ _ _ _ _⟩, ⟨mk, a, i, kC⟩⟩⟩
theorem mkP {rest : List Value} (a : PySem.W.findIn K (.ref C) x = some (some (.ref p))) (gt : PySem.W.specialIn K (.ref p) "__get__" = some (some (.builtin "property.__get__"))) (tk : PySem.W.takesIn K (.ref p) = some true)
    (rc : PySem.W.recIn K p "property" = some (.ref f :: rest))
    (l : K.lookup f = some ⟨oc, od, .func (PySem.W.fnOf x qual (defArgs st) (defBody st) (defScope st) .none kV dc pm an cd ct), sl⟩) (c : PySem.W.codeIn K cd qual = true) (k : PySem.W.keepIn K (.ref f) = true)
    (hb : ∀ (kV doc pm : Value) (an : Option Addr) (cdv ct : Value) (us : List Value), us.length = ps.length → bindArgs (PySem.W.fnOf x qual (defArgs st) (defBody st) (defScope st) .none kV doc pm an cdv ct) ⟨us, []⟩ = pure (ps.zip us)) :
    Nonempty (Pd K C x qual st ps) := ⟨⟨⟨f, _, fun_mk l c k, hb _ _ _ _ _ _⟩, p, ⟨a, gt, tk, ⟨rest, rc⟩⟩⟩⟩
theorem mkC {fs : List Str} (X : K.In h) (G : h.Ns mainGlobals mg) (a : PySem.W.nsIn K mainGlobals x = some (some (.ref C))) (pg : PySem.W.plainGet K C Str.empty = true) (hd : PySem.W.hasDictIn K C = true) (po : PySem.W.plainOver K C = true)
    (sa : PySem.W.findIn K (.ref C) "__setattr__" = some (some (.builtin "object.__setattr__"))) (n : ∀ y ∈ fs, NoAttr K C y) : ∃ d : Cd K mg x fs, d.C = C := ⟨⟨C, ⟨pg, hd, po, sa⟩, PySem.W.mg_of X G a, n⟩, rfl⟩
theorem exm_same {S : Addr} (h1 : PySem.W.subIn K (.ref S) (.type "BaseException") = some true) (h2 : PySem.W.isClsIn K S = true) (h3 : PySem.W.typeIn K (.ref S) = some (.type "type")) (h4 : PySem.W.subIn K (.ref S) (.ref S) = some true) :
    PySem.W.exmOne K (.ref S) (.ref S) = some true := by
  have e1 : (PySem.W.subIn K (.ref S) (.type "BaseException") == some true) = true := by rw [h1] <;> rfl
  have e2 : ((PySem.W.clsIn K S).isSome && PySem.W.typeIn K (.ref S) == some (.type "type")) = true := by
    have h2' : (PySem.W.clsIn K S).isSome = true := h2
    rw [h2', h3] <;> rfl
  show (if (PySem.W.subIn K (.ref S) (.type "BaseException") == some true) = true then (if ((PySem.W.clsIn K S).isSome && PySem.W.typeIn K (.ref S) == some (.type "type")) = true then PySem.W.subIn K (.ref S) (.ref S) else none) else none) = some true
  rw [if_pos e1, if_pos e2]
  exact h4
theorem mkX (X : K.In h) (G : h.Ns mainGlobals mg) (a : PySem.W.nsIn K mainGlobals x = some (some (.ref C))) (q : PySem.W.excIn K C [.type "ValueError", .type "Exception", .type "BaseException", .type "object"] "ValueError.__new__" = true)
    (kp : PySem.W.keepIn K (.ref C) = true) (sb : PySem.W.subIn K (.ref C) (.type "BaseException") = some true) (ty : PySem.W.typeIn K (.ref C) = some (.type "type")) (ic : PySem.W.isClsIn K C = true) (sC : PySem.W.subIn K (.ref C) (.ref C) = some true) :
    Nonempty (Xd K mg x) := ⟨⟨C, PySem.W.mg_of X G a, q, kp, sb, ty, exm_same sb ic ty sC⟩⟩
end
end Bk
open PySem PySem.W PyProof.Rows
set_option maxRecDepth 100000 in
set_option maxHeartbeats 0 in
theorem PySem.Challenge.cw_brimful_k54_whole_loans_give_back_holds : PySem.Challenge.rw_brimful_k54_whole_loans_give_back.Holds := by
  w_on; o_law; k_head; (case hw => w_witness2)
  k_fill
  refine L2.walk_ofK (l := PySem.Challenge.rw_brimful_k54_whole_loans_give_back) (n := 63) (k := 10) (x := "_law_script") (CX := L2.CX0) (sp := Bk.spLaw) rfl (by decide) rfl ⟨rfl, by decide, by decide⟩ (fun w h Y => PySem.W.kIn_of Y) ?F ?S (fun _ _ _ _ z => z)
  case S => exact Bk.spLaw_start
  case F =>
    intro w mg fa h KX G hmg0
    have hmg : mg "law" = some (.ref fa) := hmg0
    clear hmg0
    obtain ⟨cProgram, eProgram⟩ : ∃ d : Bk.Cd _ mg "Program" ["modulus", "cells", "inputs", "steps"], d.C = _ := by
      refine' Bk.mkC (x := "Program") KX G ?a ?pg ?hd ?po ?sa ?n
      (case a => k_is)
      (case pg => k_is)
      (case hd => k_is)
      (case po => k_is)
      (case sa => k_is)
      (case n => exact List.forall_mem_cons.mpr ⟨(by show PySem.W.findIn _ _ _ = _; k_is), List.forall_mem_cons.mpr ⟨(by show PySem.W.findIn _ _ _ = _; k_is), List.forall_mem_cons.mpr ⟨(by show PySem.W.findIn _ _ _ = _; k_is), List.forall_mem_cons.mpr ⟨(by show PySem.W.findIn _ _ _ = _; k_is), (fun _ hh => nomatch hh)⟩⟩⟩⟩)
    obtain ⟨cLoan, eLoan⟩ : ∃ d : Bk.Cd _ mg "Loan" ["program", "places", "given", "begun", "done"], d.C = _ := by
      refine' Bk.mkC (x := "Loan") KX G ?a ?pg ?hd ?po ?sa ?n
      (case a => k_is)
      (case pg => k_is)
      (case hd => k_is)
      (case po => k_is)
      (case sa => k_is)
      (case n => exact List.forall_mem_cons.mpr ⟨(by show PySem.W.findIn _ _ _ = _; k_is), List.forall_mem_cons.mpr ⟨(by show PySem.W.findIn _ _ _ = _; k_is), List.forall_mem_cons.mpr ⟨(by show PySem.W.findIn _ _ _ = _; k_is), List.forall_mem_cons.mpr ⟨(by show PySem.W.findIn _ _ _ = _; k_is), List.forall_mem_cons.mpr ⟨(by show PySem.W.findIn _ _ _ = _; k_is), (fun _ hh => nomatch hh)⟩⟩⟩⟩⟩)
    obtain ⟨cVault, eVault⟩ : ∃ d : Bk.Cd _ mg "Vault" ["modulus", "cells", "loans"], d.C = _ := by
      refine' Bk.mkC (x := "Vault") KX G ?a ?pg ?hd ?po ?sa ?n
      (case a => k_is)
      (case pg => k_is)
      (case hd => k_is)
      (case po => k_is)
      (case sa => k_is)
      (case n => exact List.forall_mem_cons.mpr ⟨(by show PySem.W.findIn _ _ _ = _; k_is), List.forall_mem_cons.mpr ⟨(by show PySem.W.findIn _ _ _ = _; k_is), List.forall_mem_cons.mpr ⟨(by show PySem.W.findIn _ _ _ = _; k_is), (fun _ hh => nomatch hh)⟩⟩⟩)
    obtain ⟨xB⟩ : Nonempty (Bk.Xd _ mg "Busy") := by
      refine' Bk.mkX (x := "Busy") KX G ?a ?zq ?kp ?sb ?ty ?ic ?sC
      (case a => k_is); (case zq => k_exc); (case kp => k_is); (case sb => k_is); (case ty => k_is); (case ic => k_is); (case sC => first | rfl | k_is)
    obtain ⟨d_isInteger, e_isInteger⟩ : ∃ d : Bk.Gd _ mg "is_integer" Bk.sIsInteger ["value"], d.f = _ := by
      refine' Bk.mkG (x := "is_integer") (st := Bk.sIsInteger) (ps := ["value"]) KX G ?a ?l ?c ?k (fun _ _ _ _ _ _ us hl => match us, hl with | [_], _ => rfl)
      (case a => k_is); (case l => k_is); (case c => k_is); (case k => k_is)
    obtain ⟨d_isNumber, e_isNumber⟩ : ∃ d : Bk.Gd _ mg "is_number" Bk.sIsNumber ["value", "modulus"], d.f = _ := by
      refine' Bk.mkG (x := "is_number") (st := Bk.sIsNumber) (ps := ["value", "modulus"]) KX G ?a ?l ?c ?k (fun _ _ _ _ _ _ us hl => match us, hl with | [_, _], _ => rfl)
      (case a => k_is); (case l => k_is); (case c => k_is); (case k => k_is)
    obtain ⟨d_isPrime, e_isPrime⟩ : ∃ d : Bk.Gd _ mg "is_prime" Bk.sIsPrime ["n"], d.f = _ := by
      refine' Bk.mkG (x := "is_prime") (st := Bk.sIsPrime) (ps := ["n"]) KX G ?a ?l ?c ?k (fun _ _ _ _ _ _ us hl => match us, hl with | [_], _ => rfl)
      (case a => k_is); (case l => k_is); (case c => k_is); (case k => k_is)
    obtain ⟨d_inverseOf, e_inverseOf⟩ : ∃ d : Bk.Gd _ mg "inverse_of" Bk.sInverseOf ["n", "modulus"], d.f = _ := by
      refine' Bk.mkG (x := "inverse_of") (st := Bk.sInverseOf) (ps := ["n", "modulus"]) KX G ?a ?l ?c ?k (fun _ _ _ _ _ _ us hl => match us, hl with | [_, _], _ => rfl)
      (case a => k_is); (case l => k_is); (case c => k_is); (case k => k_is)
    obtain ⟨d_weights, e_weights⟩ : ∃ d : Bk.Gd _ mg "weights" Bk.sWeights ["size", "prime", "x"], d.f = _ := by
      refine' Bk.mkG (x := "weights") (st := Bk.sWeights) (ps := ["size", "prime", "x"]) KX G ?a ?l ?c ?k (fun _ _ _ _ _ _ us hl => match us, hl with | [_, _, _], _ => rfl)
      (case a => k_is); (case l => k_is); (case c => k_is); (case k => k_is)
    obtain ⟨d_interpolate, e_interpolate⟩ : ∃ d : Bk.Gd _ mg "interpolate" Bk.sInterpolate ["table", "prime", "x", "y"], d.f = _ := by
      refine' Bk.mkG (x := "interpolate") (st := Bk.sInterpolate) (ps := ["table", "prime", "x", "y"]) KX G ?a ?l ?c ?k (fun _ _ _ _ _ _ us hl => match us, hl with | [_, _, _, _], _ => rfl)
      (case a => k_is); (case l => k_is); (case c => k_is); (case k => k_is)
    obtain ⟨d_isFactor, e_isFactor⟩ : ∃ d : Bk.Gd _ mg "is_factor" Bk.sIsFactor ["factor", "target", "cells", "inputs"], d.f = _ := by
      refine' Bk.mkG (x := "is_factor") (st := Bk.sIsFactor) (ps := ["factor", "target", "cells", "inputs"]) KX G ?a ?l ?c ?k (fun _ _ _ _ _ _ us hl => match us, hl with | [_, _, _, _], _ => rfl)
      (case a => k_is); (case l => k_is); (case c => k_is); (case k => k_is)
    obtain ⟨d_isTable, e_isTable⟩ : ∃ d : Bk.Gd _ mg "is_table" Bk.sIsTable ["table", "modulus"], d.f = _ := by
      refine' Bk.mkG (x := "is_table") (st := Bk.sIsTable) (ps := ["table", "modulus"]) KX G ?a ?l ?c ?k (fun _ _ _ _ _ _ us hl => match us, hl with | [_, _], _ => rfl)
      (case a => k_is); (case l => k_is); (case c => k_is); (case k => k_is)
    obtain ⟨d_isAdd, e_isAdd⟩ : ∃ d : Bk.Gd _ mg "is_add" Bk.sIsAdd ["step", "modulus", "cells", "inputs"], d.f = _ := by
      refine' Bk.mkG (x := "is_add") (st := Bk.sIsAdd) (ps := ["step", "modulus", "cells", "inputs"]) KX G ?a ?l ?c ?k (fun _ _ _ _ _ _ us hl => match us, hl with | [_, _, _, _], _ => rfl)
      (case a => k_is); (case l => k_is); (case c => k_is); (case k => k_is)
    obtain ⟨d_isLook, e_isLook⟩ : ∃ d : Bk.Gd _ mg "is_look" Bk.sIsLook ["step", "modulus", "cells"], d.f = _ := by
      refine' Bk.mkG (x := "is_look") (st := Bk.sIsLook) (ps := ["step", "modulus", "cells"]) KX G ?a ?l ?c ?k (fun _ _ _ _ _ _ us hl => match us, hl with | [_, _, _], _ => rfl)
      (case a => k_is); (case l => k_is); (case c => k_is); (case k => k_is)
    obtain ⟨d_isStep, e_isStep⟩ : ∃ d : Bk.Gd _ mg "is_step" Bk.sIsStep ["step", "modulus", "cells", "inputs"], d.f = _ := by
      refine' Bk.mkG (x := "is_step") (st := Bk.sIsStep) (ps := ["step", "modulus", "cells", "inputs"]) KX G ?a ?l ?c ?k (fun _ _ _ _ _ _ us hl => match us, hl with | [_, _, _, _], _ => rfl)
      (case a => k_is); (case l => k_is); (case c => k_is); (case k => k_is)
    obtain ⟨d_inverseStep, e_inverseStep⟩ : ∃ d : Bk.Gd _ mg "inverse_step" Bk.sInverseStep ["step", "modulus"], d.f = _ := by
      refine' Bk.mkG (x := "inverse_step") (st := Bk.sInverseStep) (ps := ["step", "modulus"]) KX G ?a ?l ?c ?k (fun _ _ _ _ _ _ us hl => match us, hl with | [_, _], _ => rfl)
      (case a => k_is); (case l => k_is); (case c => k_is); (case k => k_is)
    obtain ⟨d_perform, e_perform⟩ : ∃ d : Bk.Gd _ mg "perform" Bk.sPerform ["step", "memory", "given", "modulus"], d.f = _ := by
      refine' Bk.mkG (x := "perform") (st := Bk.sPerform) (ps := ["step", "memory", "given", "modulus"]) KX G ?a ?l ?c ?k (fun _ _ _ _ _ _ us hl => match us, hl with | [_, _, _, _], _ => rfl)
      (case a => k_is); (case l => k_is); (case c => k_is); (case k => k_is)
    obtain ⟨d_checkSteps, e_checkSteps⟩ : ∃ d : Bk.Gd _ mg "check_steps" Bk.sCheckSteps ["steps", "modulus", "cells", "inputs", "most"], d.f = _ := by
      refine' Bk.mkG (x := "check_steps") (st := Bk.sCheckSteps) (ps := ["steps", "modulus", "cells", "inputs", "most"]) KX G ?a ?l ?c ?k (fun _ _ _ _ _ _ us hl => match us, hl with | [_, _, _, _, _], _ => rfl)
      (case a => k_is); (case l => k_is); (case c => k_is); (case k => k_is)
    obtain ⟨d_checkNumbers, e_checkNumbers⟩ : ∃ d : Bk.Gd _ mg "check_numbers" Bk.sCheckNumbers ["values", "many", "modulus"], d.f = _ := by
      refine' Bk.mkG (x := "check_numbers") (st := Bk.sCheckNumbers) (ps := ["values", "many", "modulus"]) KX G ?a ?l ?c ?k (fun _ _ _ _ _ _ us hl => match us, hl with | [_, _, _], _ => rfl)
      (case a => k_is); (case l => k_is); (case c => k_is); (case k => k_is)
    obtain ⟨d_pInit⟩ : Nonempty (Bk.Id (L2.KOf KX) cProgram.C "Program.__init__" Bk.sPInit ["self", "modulus", "cells", "inputs", "steps"]) := by
      rw [eProgram]
      dsimp only [L2.KOf]
      refine' Bk.mkI (qual := "Program.__init__") (st := Bk.sPInit) (ps := ["self", "modulus", "cells", "inputs", "steps"]) ?mk ?kC ?a ?i ?l ?c ?k (fun _ _ _ _ _ _ us hl => match us, hl with | [_, _, _, _, _], _ => rfl)
      (case mk => k_is); (case kC => k_is); (case a => k_is); (case i => k_is); (case l => k_is); (case c => k_is); (case k => k_is)
    obtain ⟨d_lInit⟩ : Nonempty (Bk.Id (L2.KOf KX) cLoan.C "Loan.__init__" Bk.sLInit ["self", "program", "places", "given", "begun"]) := by
      rw [eLoan]
      dsimp only [L2.KOf]
      refine' Bk.mkI (qual := "Loan.__init__") (st := Bk.sLInit) (ps := ["self", "program", "places", "given", "begun"]) ?mk ?kC ?a ?i ?l ?c ?k (fun _ _ _ _ _ _ us hl => match us, hl with | [_, _, _, _, _], _ => rfl)
      (case mk => k_is); (case kC => k_is); (case a => k_is); (case i => k_is); (case l => k_is); (case c => k_is); (case k => k_is)
    obtain ⟨d_vInit⟩ : Nonempty (Bk.Id (L2.KOf KX) cVault.C "Vault.__init__" Bk.sVInit ["self", "memory", "modulus"]) := by
      rw [eVault]
      dsimp only [L2.KOf]
      refine' Bk.mkI (qual := "Vault.__init__") (st := Bk.sVInit) (ps := ["self", "memory", "modulus"]) ?mk ?kC ?a ?i ?l ?c ?k (fun _ _ _ _ _ _ us hl => match us, hl with | [_, _, _], _ => rfl)
      (case mk => k_is); (case kC => k_is); (case a => k_is); (case i => k_is); (case l => k_is); (case c => k_is); (case k => k_is)
    obtain ⟨d_vMemory⟩ : Nonempty (Bk.Pd (L2.KOf KX) cVault.C "memory" "Vault.memory" Bk.sVMemory ["self"]) := by
      rw [eVault]
      dsimp only [L2.KOf]
      refine' Bk.mkP (x := "memory") (qual := "Vault.memory") (st := Bk.sVMemory) (ps := ["self"]) ?a ?gt ?tk ?rc ?l ?c ?k (fun _ _ _ _ _ _ us hl => match us, hl with | [_], _ => rfl)
      (case a => k_is); (case gt => k_is); (case tk => k_is); (case rc => k_is); (case l => k_is); (case c => k_is); (case k => k_is)
    obtain ⟨d_vLend⟩ : Nonempty (Bk.Md (L2.KOf KX) cVault.C "lend" "Vault.lend" Bk.sVLend ["self", "program", "places", "given"]) := by
      rw [eVault]
      dsimp only [L2.KOf]
      refine' Bk.mkM (x := "lend") (qual := "Vault.lend") (st := Bk.sVLend) (ps := ["self", "program", "places", "given"]) ?a ?i ?l ?c ?k (fun _ _ _ _ _ _ us hl => match us, hl with | [_, _, _, _], _ => rfl)
      (case a => k_is); (case i => k_is); (case l => k_is); (case c => k_is); (case k => k_is)
    obtain ⟨d_vFound⟩ : Nonempty (Bk.Md (L2.KOf KX) cVault.C "found" "Vault.found" Bk.sVFound ["self", "ticket"]) := by
      rw [eVault]
      dsimp only [L2.KOf]
      refine' Bk.mkM (x := "found") (qual := "Vault.found") (st := Bk.sVFound) (ps := ["self", "ticket"]) ?a ?i ?l ?c ?k (fun _ _ _ _ _ _ us hl => match us, hl with | [_, _], _ => rfl)
      (case a => k_is); (case i => k_is); (case l => k_is); (case c => k_is); (case k => k_is)
    obtain ⟨d_vBlocked⟩ : Nonempty (Bk.Md (L2.KOf KX) cVault.C "blocked" "Vault.blocked" Bk.sVBlocked ["self", "ticket"]) := by
      rw [eVault]
      dsimp only [L2.KOf]
      refine' Bk.mkM (x := "blocked") (qual := "Vault.blocked") (st := Bk.sVBlocked) (ps := ["self", "ticket"]) ?a ?i ?l ?c ?k (fun _ _ _ _ _ _ us hl => match us, hl with | [_, _], _ => rfl)
      (case a => k_is); (case i => k_is); (case l => k_is); (case c => k_is); (case k => k_is)
    obtain ⟨d_vPerform⟩ : Nonempty (Bk.Md (L2.KOf KX) cVault.C "perform" "Vault.perform" Bk.sVPerform ["self", "loan", "step"]) := by
      rw [eVault]
      dsimp only [L2.KOf]
      refine' Bk.mkM (x := "perform") (qual := "Vault.perform") (st := Bk.sVPerform) (ps := ["self", "loan", "step"]) ?a ?i ?l ?c ?k (fun _ _ _ _ _ _ us hl => match us, hl with | [_, _, _], _ => rfl)
      (case a => k_is); (case i => k_is); (case l => k_is); (case c => k_is); (case k => k_is)
    obtain ⟨d_vAdvance⟩ : Nonempty (Bk.Md (L2.KOf KX) cVault.C "advance" "Vault.advance" Bk.sVAdvance ["self", "ticket", "most"]) := by
      rw [eVault]
      dsimp only [L2.KOf]
      refine' Bk.mkM (x := "advance") (qual := "Vault.advance") (st := Bk.sVAdvance) (ps := ["self", "ticket", "most"]) ?a ?i ?l ?c ?k (fun _ _ _ _ _ _ us hl => match us, hl with | [_, _, _], _ => rfl)
      (case a => k_is); (case i => k_is); (case l => k_is); (case c => k_is); (case k => k_is)
    obtain ⟨d_vAnswer⟩ : Nonempty (Bk.Md (L2.KOf KX) cVault.C "answer" "Vault.answer" Bk.sVAnswer ["self", "ticket"]) := by
      rw [eVault]
      dsimp only [L2.KOf]
      refine' Bk.mkM (x := "answer") (qual := "Vault.answer") (st := Bk.sVAnswer) (ps := ["self", "ticket"]) ?a ?i ?l ?c ?k (fun _ _ _ _ _ _ us hl => match us, hl with | [_, _], _ => rfl)
      (case a => k_is); (case i => k_is); (case l => k_is); (case c => k_is); (case k => k_is)
    obtain ⟨d_vRecall⟩ : Nonempty (Bk.Md (L2.KOf KX) cVault.C "recall" "Vault.recall" Bk.sVRecall ["self", "ticket"]) := by
      rw [eVault]
      dsimp only [L2.KOf]
      refine' Bk.mkM (x := "recall") (qual := "Vault.recall") (st := Bk.sVRecall) (ps := ["self", "ticket"]) ?a ?i ?l ?c ?k (fun _ _ _ _ _ _ us hl => match us, hl with | [_, _], _ => rfl)
      (case a => k_is); (case i => k_is); (case l => k_is); (case c => k_is); (case k => k_is)
    obtain ⟨d_vOpenLoans⟩ : Nonempty (Bk.Md (L2.KOf KX) cVault.C "open_loans" "Vault.open_loans" Bk.sVOpenLoans ["self"]) := by
      rw [eVault]
      dsimp only [L2.KOf]
      refine' Bk.mkM (x := "open_loans") (qual := "Vault.open_loans") (st := Bk.sVOpenLoans) (ps := ["self"]) ?a ?i ?l ?c ?k (fun _ _ _ _ _ _ us hl => match us, hl with | [_], _ => rfl)
      (case a => k_is); (case i => k_is); (case l => k_is); (case c => k_is); (case k => k_is)
    obtain ⟨d_LMixed, e_LMixed⟩ : ∃ d : Bk.Gd _ mg "_law_mixed" Bk.sLMixed ["_law_number_here", "_law_k"], d.f = _ := by
      refine' Bk.mkG (x := "_law_mixed") (st := Bk.sLMixed) (ps := ["_law_number_here", "_law_k"]) KX G ?a ?l ?c ?k (fun _ _ _ _ _ _ us hl => match us, hl with | [_, _], _ => rfl)
      (case a => k_is); (case l => k_is); (case c => k_is); (case k => k_is)
    obtain ⟨d_LNumbers, e_LNumbers⟩ : ∃ d : Bk.Gd _ mg "_law_numbers" Bk.sLNumbers ["_law_script"], d.f = _ := by
      refine' Bk.mkG (x := "_law_numbers") (st := Bk.sLNumbers) (ps := ["_law_script"]) KX G ?a ?l ?c ?k (fun _ _ _ _ _ _ us hl => match us, hl with | [_], _ => rfl)
      (case a => k_is); (case l => k_is); (case c => k_is); (case k => k_is)
    obtain ⟨d_LDraw, e_LDraw⟩ : ∃ d : Bk.Gd _ mg "_law_draw" Bk.sLDraw ["_law_draws"], d.f = _ := by
      refine' Bk.mkG (x := "_law_draw") (st := Bk.sLDraw) (ps := ["_law_draws"]) KX G ?a ?l ?c ?k (fun _ _ _ _ _ _ us hl => match us, hl with | [_], _ => rfl)
      (case a => k_is); (case l => k_is); (case c => k_is); (case k => k_is)
    obtain ⟨d_LEqual, e_LEqual⟩ : ∃ d : Bk.Gd _ mg "_law_equal" Bk.sLEqual ["_law_actual", "_law_due"], d.f = _ := by
      refine' Bk.mkG (x := "_law_equal") (st := Bk.sLEqual) (ps := ["_law_actual", "_law_due"]) KX G ?a ?l ?c ?k (fun _ _ _ _ _ _ us hl => match us, hl with | [_, _], _ => rfl)
      (case a => k_is); (case l => k_is); (case c => k_is); (case k => k_is)
    obtain ⟨d_LAllEqual, e_LAllEqual⟩ : ∃ d : Bk.Gd _ mg "_law_all_equal" Bk.sLAllEqual ["_law_actual", "_law_due"], d.f = _ := by
      refine' Bk.mkG (x := "_law_all_equal") (st := Bk.sLAllEqual) (ps := ["_law_actual", "_law_due"]) KX G ?a ?l ?c ?k (fun _ _ _ _ _ _ us hl => match us, hl with | [_, _], _ => rfl)
      (case a => k_is); (case l => k_is); (case c => k_is); (case k => k_is)
    obtain ⟨d_LGcd, e_LGcd⟩ : ∃ d : Bk.Gd _ mg "_law_gcd" Bk.sLGcd ["_law_a", "_law_b"], d.f = _ := by
      refine' Bk.mkG (x := "_law_gcd") (st := Bk.sLGcd) (ps := ["_law_a", "_law_b"]) KX G ?a ?l ?c ?k (fun _ _ _ _ _ _ us hl => match us, hl with | [_, _], _ => rfl)
      (case a => k_is); (case l => k_is); (case c => k_is); (case k => k_is)
    obtain ⟨d_LFactors, e_LFactors⟩ : ∃ d : Bk.Gd _ mg "_law_factors" Bk.sLFactors ["_law_draws", "_law_cells", "_law_inputs", "_law_target"], d.f = _ := by
      refine' Bk.mkG (x := "_law_factors") (st := Bk.sLFactors) (ps := ["_law_draws", "_law_cells", "_law_inputs", "_law_target"]) KX G ?a ?l ?c ?k (fun _ _ _ _ _ _ us hl => match us, hl with | [_, _, _, _], _ => rfl)
      (case a => k_is); (case l => k_is); (case c => k_is); (case k => k_is)
    obtain ⟨d_LNumber, e_LNumber⟩ : ∃ d : Bk.Gd _ mg "_law_number" Bk.sLNumber ["_law_draws", "_law_modulus_here"], d.f = _ := by
      refine' Bk.mkG (x := "_law_number") (st := Bk.sLNumber) (ps := ["_law_draws", "_law_modulus_here"]) KX G ?a ?l ?c ?k (fun _ _ _ _ _ _ us hl => match us, hl with | [_, _], _ => rfl)
      (case a => k_is); (case l => k_is); (case c => k_is); (case k => k_is)
    obtain ⟨d_LIsPrime, e_LIsPrime⟩ : ∃ d : Bk.Gd _ mg "_law_is_prime" Bk.sLIsPrime ["_law_number_here"], d.f = _ := by
      refine' Bk.mkG (x := "_law_is_prime") (st := Bk.sLIsPrime) (ps := ["_law_number_here"]) KX G ?a ?l ?c ?k (fun _ _ _ _ _ _ us hl => match us, hl with | [_], _ => rfl)
      (case a => k_is); (case l => k_is); (case c => k_is); (case k => k_is)
    obtain ⟨d_LModulus, e_LModulus⟩ : ∃ d : Bk.Gd _ mg "_law_modulus" Bk.sLModulus ["_law_draws"], d.f = _ := by
      refine' Bk.mkG (x := "_law_modulus") (st := Bk.sLModulus) (ps := ["_law_draws"]) KX G ?a ?l ?c ?k (fun _ _ _ _ _ _ us hl => match us, hl with | [_], _ => rfl)
      (case a => k_is); (case l => k_is); (case c => k_is); (case k => k_is)
    obtain ⟨d_LLook, e_LLook⟩ : ∃ d : Bk.Gd _ mg "_law_look" Bk.sLLook ["_law_draws", "_law_modulus_here", "_law_cells", "_law_target"], d.f = _ := by
      refine' Bk.mkG (x := "_law_look") (st := Bk.sLLook) (ps := ["_law_draws", "_law_modulus_here", "_law_cells", "_law_target"]) KX G ?a ?l ?c ?k (fun _ _ _ _ _ _ us hl => match us, hl with | [_, _, _, _], _ => rfl)
      (case a => k_is); (case l => k_is); (case c => k_is); (case k => k_is)
    obtain ⟨d_LStep, e_LStep⟩ : ∃ d : Bk.Gd _ mg "_law_step" Bk.sLStep ["_law_draws", "_law_modulus_here", "_law_cells", "_law_inputs"], d.f = _ := by
      refine' Bk.mkG (x := "_law_step") (st := Bk.sLStep) (ps := ["_law_draws", "_law_modulus_here", "_law_cells", "_law_inputs"]) KX G ?a ?l ?c ?k (fun _ _ _ _ _ _ us hl => match us, hl with | [_, _, _, _], _ => rfl)
      (case a => k_is); (case l => k_is); (case c => k_is); (case k => k_is)
    obtain ⟨d_LPlaces, e_LPlaces⟩ : ∃ d : Bk.Gd _ mg "_law_places" Bk.sLPlaces ["_law_draws", "_law_size_here", "_law_cells"], d.f = _ := by
      refine' Bk.mkG (x := "_law_places") (st := Bk.sLPlaces) (ps := ["_law_draws", "_law_size_here", "_law_cells"]) KX G ?a ?l ?c ?k (fun _ _ _ _ _ _ us hl => match us, hl with | [_, _, _], _ => rfl)
      (case a => k_is); (case l => k_is); (case c => k_is); (case k => k_is)
    obtain ⟨d_LLoan, e_LLoan⟩ : ∃ d : Bk.Gd _ mg "_law_loan" Bk.sLLoan ["_law_draws", "_law_modulus_here", "_law_size_here"], d.f = _ := by
      refine' Bk.mkG (x := "_law_loan") (st := Bk.sLLoan) (ps := ["_law_draws", "_law_modulus_here", "_law_size_here"]) KX G ?a ?l ?c ?k (fun _ _ _ _ _ _ us hl => match us, hl with | [_, _, _], _ => rfl)
      (case a => k_is); (case l => k_is); (case c => k_is); (case k => k_is)
    obtain ⟨d_LSize, e_LSize⟩ : ∃ d : Bk.Gd _ mg "_law_size" Bk.sLSize ["_law_draws"], d.f = _ := by
      refine' Bk.mkG (x := "_law_size") (st := Bk.sLSize) (ps := ["_law_draws"]) KX G ?a ?l ?c ?k (fun _ _ _ _ _ _ us hl => match us, hl with | [_], _ => rfl)
      (case a => k_is); (case l => k_is); (case c => k_is); (case k => k_is)
    obtain ⟨d_LCalled, e_LCalled⟩ : ∃ d : Bk.Gd _ mg "_law_called" Bk.sLCalled ["_law_vault", "_law_pick", "_law_ticket", "_law_most"], d.f = _ := by
      refine' Bk.mkG (x := "_law_called") (st := Bk.sLCalled) (ps := ["_law_vault", "_law_pick", "_law_ticket", "_law_most"]) KX G ?a ?l ?c ?k (fun _ _ _ _ _ _ us hl => match us, hl with | [_, _, _, _], _ => rfl)
      (case a => k_is); (case l => k_is); (case c => k_is); (case k => k_is)
    obtain ⟨d_LHouse, e_LHouse⟩ : ∃ d : Bk.Gd _ mg "_law_house" Bk.sLHouse ["_law_draws", "_law_modulus_here"], d.f = _ := by
      refine' Bk.mkG (x := "_law_house") (st := Bk.sLHouse) (ps := ["_law_draws", "_law_modulus_here"]) KX G ?a ?l ?c ?k (fun _ _ _ _ _ _ us hl => match us, hl with | [_, _], _ => rfl)
      (case a => k_is); (case l => k_is); (case c => k_is); (case k => k_is)
    obtain ⟨d_LMove, e_LMove⟩ : ∃ d : Bk.Gd _ mg "_law_move" Bk.sLMove ["_law_draws", "_law_house_here", "_law_modulus_here", "_law_known"], d.f = _ := by
      refine' Bk.mkG (x := "_law_move") (st := Bk.sLMove) (ps := ["_law_draws", "_law_house_here", "_law_modulus_here", "_law_known"]) KX G ?a ?l ?c ?k (fun _ _ _ _ _ _ us hl => match us, hl with | [_, _, _, _], _ => rfl)
      (case a => k_is); (case l => k_is); (case c => k_is); (case k => k_is)
    obtain ⟨d_LGivenBack, e_LGivenBack⟩ : ∃ d : Bk.Gd _ mg "_law_given_back" Bk.sLGivenBack ["_law_house_here"], d.f = _ := by
      refine' Bk.mkG (x := "_law_given_back") (st := Bk.sLGivenBack) (ps := ["_law_house_here"]) KX G ?a ?l ?c ?k (fun _ _ _ _ _ _ us hl => match us, hl with | [_], _ => rfl)
      (case a => k_is); (case l => k_is); (case c => k_is); (case k => k_is)
    obtain ⟨d_law, e_law⟩ : ∃ d : Bk.Gd _ mg "law" Bk.sLaw ["_law_script"], d.f = _ := by
      refine' Bk.mkG (x := "law") (st := Bk.sLaw) (ps := ["_law_script"]) KX G ?a ?l ?c ?k (fun _ _ _ _ _ _ us hl => match us, hl with | [_], _ => rfl)
      (case a => k_is); (case l => k_is); (case c => k_is); (case k => k_is)
    have gPs : mg "perform_steps" = some (.ref d_perform.f) := by
      rw [e_perform]
      exact PySem.W.mg_of KX G (by k_is)
    have kFACTORS : ∃ t, mg "FACTORS" = some (.int 3 t) := ⟨_, PySem.W.mg_of KX G (by k_is)⟩
    have kMODULUS : ∃ t, mg "MODULUS" = some (.int 1000000000 t) := ⟨_, PySem.W.mg_of KX G (by k_is)⟩
    have kCELLS : ∃ t, mg "CELLS" = some (.int 60 t) := ⟨_, PySem.W.mg_of KX G (by k_is)⟩
    have kINPUTS : ∃ t, mg "INPUTS" = some (.int 60 t) := ⟨_, PySem.W.mg_of KX G (by k_is)⟩
    have kSTEPS : ∃ t, mg "STEPS" = some (.int 20000 t) := ⟨_, PySem.W.mg_of KX G (by k_is)⟩
    have kMOST : ∃ t, mg "MOST" = some (.int 200 t) := ⟨_, PySem.W.mg_of KX G (by k_is)⟩
    have zlen : mg "len" = none := PySem.W.mg_none_of KX G (by k_is)
    have zisinstance : mg "isinstance" = none := PySem.W.mg_none_of KX G (by k_is)
    have zint : mg "int" = none := PySem.W.mg_none_of KX G (by k_is)
    have zbool : mg "bool" = none := PySem.W.mg_none_of KX G (by k_is)
    have ztuple : mg "tuple" = none := PySem.W.mg_none_of KX G (by k_is)
    have zlist : mg "list" = none := PySem.W.mg_none_of KX G (by k_is)
    have zstr : mg "str" = none := PySem.W.mg_none_of KX G (by k_is)
    have zrange : mg "range" = none := PySem.W.mg_none_of KX G (by k_is)
    have zzip : mg "zip" = none := PySem.W.mg_none_of KX G (by k_is)
    have zenumerate : mg "enumerate" = none := PySem.W.mg_none_of KX G (by k_is)
    have zany : mg "any" = none := PySem.W.mg_none_of KX G (by k_is)
    have zmin : mg "min" = none := PySem.W.mg_none_of KX G (by k_is)
    have zmax : mg "max" = none := PySem.W.mg_none_of KX G (by k_is)
    let T : Bk.Top _ mg := ⟨cProgram, cLoan, cVault, xB, d_isInteger, d_isNumber, d_isPrime, d_inverseOf, d_weights, d_interpolate, d_isFactor, d_isTable, d_isAdd, d_isLook, d_isStep, d_inverseStep, d_perform, d_checkSteps, d_checkNumbers, d_pInit, d_lInit, d_vInit, d_vMemory, d_vLend, d_vFound, d_vBlocked, d_vPerform, d_vAdvance, d_vAnswer, d_vRecall, d_vOpenLoans, d_LMixed, d_LNumbers, d_LDraw, d_LEqual, d_LAllEqual, d_LGcd, d_LFactors, d_LNumber, d_LIsPrime, d_LModulus, d_LLook, d_LStep, d_LPlaces, d_LLoan, d_LSize, d_LCalled, d_LHouse, d_LMove, d_LGivenBack, d_law, gPs, kFACTORS, kMODULUS, kCELLS, kINPUTS, kSTEPS, kMOST, zlen, zisinstance, zint, zbool, ztuple, zlist, zstr, zrange, zzip, zenumerate, zany, zmin, zmax⟩
    have ef : T.law.f = fa := by
      have e := T.law.g.symm.trans hmg
      cases e
      rfl
    subst ef
    exact ⟨T.law.fd, fun s v => .of_eq (T.law.b0 [v] rfl), fun base _ _ => Bk.ok_law T⟩
