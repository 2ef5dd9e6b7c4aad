/- A part of the proof of one statement about the given program: a verified evaluator of the model's code, and contracts of functions (ZG ZH ZI YA YB YC YD YE YF YH Gm GT GU ZJ ZK ZL ZM ZN ZO ZP). No condition of its own. -/
import Derived.KernelRfl
import Derived.Test.YtkfjdlbkmomffaaGreatDoorV04
set_option linter.unusedVariables false
set_option linter.unusedSimpArgs false
set_option linter.defProp false
set_option linter.constructorNameAsVariable false
set_option linter.unusedVariables false
set_option linter.unusedSimpArgs false
set_option maxRecDepth 100000
namespace Go.Proofs.Dv
open Go.RowKit
open Nat renaming reduceEqDiff → zA, reduceAdd → zB, reduceSub → zC, reduceLeDiff → zD, reduceLT → zE, reduceMul → zF
open Int renaming reduceToNat → zG, reduceLE → zH, reduceLT → zI
open List renaming set_cons_zero → zJ, set_cons_succ → zK
theorem mskN {W : Nat} (h1 : 1 ≤ W) (h2 : W ≤ 64) : mskI (W : Int) = ((2 ^ W - 1 : Nat) : Int) := by
  unfold mskI
  rw [if_pos (inB_iff.2 (by omega)), Int.toNat_natCast, Int.natCast_sub Nat.one_le_two_pow, Int.natCast_pow]; rfl
theorem ok_below {w x : Int} (h1 : 1 ≤ w) (h2 : w ≤ 64) : okI w x = decide (x < p2 w.toNat) := by
  obtain ⟨W, rfl⟩ : ∃ W : Nat, w = W := ⟨w.toNat, by omega⟩
  unfold okI
  rw [inB_iff.2 ⟨h1, h2⟩, Bool.true_and, mskN (by omega) (by omega), Int.toNat_natCast]
  have : p2 W = ((2 ^ W : Nat) : Int) := by simp [p2]
  rw [this]
  have h3 := Nat.one_le_two_pow (n := W)
  exact decide_eq_decide.2 (by omega)
theorem pow64 {n : Nat} (h : n ≤ 64) : 2 ^ n ≤ 18446744073709551616 := by
  have := Nat.pow_le_pow_right (n := 2) (by omega) h
  exact this
theorem usr_nat {Y L : Nat} (h : L ≤ 64) : usr (Y : Int) (L : Int) = ((Y / 2 ^ L : Nat) : Int) := by
  unfold usr
  rw [Int.toNat_natCast, show IntKind.u64.bits = 64 from rfl, show min L 64 = L by omega, Int.fdiv_eq_ediv_of_nonneg _ (Int.le_of_lt (Int.pow_pos (by omega))), show ((2 : Int) ^ L) = ((2 ^ L : Nat) : Int) by rw [Int.natCast_pow]; rfl]
  rfl
def rdN (y low w : Int) : Int := ((y.toNat / 2 ^ low.toNat % 2 ^ w.toNat : Nat) : Int)
theorem rdMN {y low w : Int} (hy : 0 ≤ y ∧ y < 18446744073709551616) (h0 : 0 ≤ low) (h1 : 1 ≤ w) (h2 : low + w ≤ 64) : rdM y low w = rdN y low w := by
  obtain ⟨Y, rfl⟩ : ∃ Y : Nat, y = Y := ⟨y.toNat, by omega⟩
  obtain ⟨L, rfl⟩ : ∃ L : Nat, low = L := ⟨low.toNat, by omega⟩
  obtain ⟨W, rfl⟩ : ∃ W : Nat, w = W := ⟨w.toNat, by omega⟩
  have hq : Y / 2 ^ L ≤ Y := Nat.div_le_self _ _
  have hp := pow64 (n := W) (by omega)
  have hp1 := Nat.one_le_two_pow (n := W)
  unfold rdM rdN
  rw [usr_nat (by omega), mskN (by omega) (by omega), uand_nat (by omega) (by omega), Int.toNat_natCast, Int.toNat_natCast, Int.toNat_natCast, Nat.and_two_pow_sub_one_eq_mod]
theorem wr_bits {Y X L W : Nat} (hY : Y < 2 ^ 64) (hX : X < 2 ^ W) (h1 : 1 ≤ W) (h2 : L + W ≤ 64) : ∃ M : Nat, wrM (Y : Int) (X : Int) (L : Int) (W : Int) = (M : Int) ∧ M < 2 ^ 64 ∧
    ∀ i, i < 64 → M.testBit i = if L ≤ i ∧ i < L + W then X.testBit (i - L) else Y.testBit i := by
  have hp1 := Nat.one_le_two_pow (n := W)
  have hLW : 2 ^ (L + W) ≤ 2 ^ 64 := Nat.pow_le_pow_right (by omega) h2
  have hs : ∀ Z : Nat, Z < 2 ^ W → ushl (Z : Int) (L : Int) = ((Z * 2 ^ L : Nat) : Int) ∧ Z * 2 ^ L < 2 ^ 64 := by
    intro Z hZ
    have hlt : Z * 2 ^ L < 2 ^ 64 := by
      have : Z * 2 ^ L < 2 ^ W * 2 ^ L := Nat.mul_lt_mul_of_pos_right hZ (Nat.two_pow_pos L)
      rw [← Nat.pow_add, Nat.add_comm] at this
      omega
    refine ⟨?_, hlt⟩
    unfold ushl
    rw [Int.toNat_natCast, show IntKind.u64.bits = 64 from rfl, show min L 64 = L by omega, show ((2 : Int) ^ L) = ((2 ^ L : Nat) : Int) by rw [Int.natCast_pow]; rfl, ← Int.natCast_mul]
    exact wu _ (Int.natCast_nonneg _) (by omega)
  obtain ⟨m1, m2⟩ := hs (2 ^ W - 1) (by omega)
  obtain ⟨x1, x2⟩ := hs X hX
  have han : uandn (Y : Int) (((2 ^ W - 1) * 2 ^ L : Nat) : Int) = (((BitVec.ofNat 64 Y &&& ~~~ BitVec.ofNat 64 ((2 ^ W - 1) * 2 ^ L)).toNat : Nat) : Int) := by
    unfold uandn
    show IntKind.u64.wrap ((BitVec.ofInt 64 (Y : Int) &&& ~~~ BitVec.ofInt 64 ((((2 ^ W - 1) * 2 ^ L : Nat)) : Int)).toNat : Int) = _
    rw [bv_nat, bv_nat]
    exact wu _ (Int.natCast_nonneg _) (by have := (BitVec.ofNat 64 Y &&& ~~~ BitVec.ofNat 64 ((2 ^ W - 1) * 2 ^ L)).isLt; omega)
  have hAl := (BitVec.ofNat 64 Y &&& ~~~ BitVec.ofNat 64 ((2 ^ W - 1) * 2 ^ L)).isLt
  refine ⟨(BitVec.ofNat 64 Y &&& ~~~ BitVec.ofNat 64 ((2 ^ W - 1) * 2 ^ L)).toNat ||| X * 2 ^ L, ?_, Nat.or_lt_two_pow hAl x2, fun i hi => ?_⟩
  · unfold wrM
    rw [mskN h1 (by omega), m1, x1, han, uor_nat hAl x2]
  · rw [Nat.testBit_or, ← BitVec.getLsbD]
    rw [← Nat.shiftLeft_eq, ← Nat.shiftLeft_eq]
    simp only [BitVec.getLsbD_and, BitVec.getLsbD_not, BitVec.getLsbD_ofNat, hi, decide_true, Bool.true_and, Nat.testBit_shiftLeft, Nat.testBit_two_pow_sub_one]
    by_cases h : L ≤ i ∧ i < L + W
    · rw [if_pos h, decide_eq_true (show i ≥ L from h.1), decide_eq_true (show i - L < W by omega)]
      simp
    · rw [if_neg h]
      by_cases hL : i ≥ L
      · rw [decide_eq_true hL, decide_eq_false (show ¬ i - L < W by omega)]
        have : X.testBit (i - L) = false := Nat.testBit_lt_two_pow (Nat.lt_of_lt_of_le hX (Nat.pow_le_pow_right (by omega) (by omega)))
        rw [this]; simp
      · rw [decide_eq_false hL]; simp
end Go.Proofs.Dv
set_option linter.unusedVariables false
set_option linter.unusedSimpArgs false
set_option maxRecDepth 100000
namespace Go.Proofs.Dv
open Go.RowKit
open Nat renaming reduceEqDiff → zA, reduceAdd → zB, reduceSub → zC, reduceLeDiff → zD, reduceLT → zE, reduceMul → zF
open Int renaming reduceToNat → zG, reduceLE → zH, reduceLT → zI
open List renaming set_cons_zero → zJ, set_cons_succ → zK
end Go.Proofs.Dv
set_option linter.unusedVariables false
set_option linter.unusedSimpArgs false
set_option maxRecDepth 100000
namespace Go.Proofs.Dv
open Go.RowKit
open Nat renaming reduceEqDiff → zA, reduceAdd → zB, reduceSub → zC, reduceLeDiff → zD, reduceLT → zE, reduceMul → zF
open Int renaming reduceToNat → zG, reduceLE → zH, reduceLT → zI
open List renaming set_cons_zero → zJ, set_cons_succ → zK
def writeW (m : Mc) (rs : List Int) (reg x e : Int) (hp : List (Nat × Blk)) (nx : Nat) : D × List (Nat × Blk) × Nat := bif !decide (e = 0) then (.tup [.lst true [], .v (.int .i64 e)], hp, nx) else
  match m.regs[reg.toNat]? with
  | some r => bif !okI r.width x then (.tup [.lst true [], .v (.int .i64 24)], hp, nx) else
    (.tup [.own (nx + 1) rs.length, .v (.int .i64 0)], (nx + 1, .box ((rs.set (pieceP m reg r).toNat (wrM (rs.getD (pieceP m reg r).toNat 0) x r.low r.width)).map uV)) :: (nx, .box m.d) :: hp, nx + 2)
  | none => (.junk, hp, nx)
def x_SameW (a : Bool × Bool × (List Int)) : List D := match a with | (b, c, l) => [.lst b (l.map uD), .lst c (l.map uD)]
theorem i_SameW : ∀ a b, x_SameW a = x_SameW b → a = b := by
  rintro ⟨b, c, l⟩ ⟨b', c', l'⟩ h
  first | simpa [x_SameW, INJ, and_assoc, Int.ofNat_inj] using h | (simp [x_SameW, INJ, and_assoc, Int.ofNat_inj] at h; simp_all)
noncomputable def s_SameW : List D → Option D := sOf x_SameW fun a => match a with | (b, c, l) => some (.v (.bool true))
theorem e_SameW {b : Bool} {c : Bool} {l : List Int} : s_SameW [.lst b (l.map uD), .lst c (l.map uD)] = some (.v (.bool true)) := sOf_eq i_SameW (b, c, l)
theorem R_SameW {C : Ctx} {F : IFun} (hspec : ∀ N, maxLen + 10 < N → ∀ (b : Bool) (c : Bool) (l : List Int), lenOK.lenOKs [.lst b (l.map uD), .lst c (l.map uD)] → runE C N F [.lst b (l.map uD), .lst c (l.map uD)] = some (.v (.bool true))) : Runs C F s_SameW := runs_of i_SameW fun N hN a r hl hf => by
  obtain ⟨b, c, l⟩ := a
  simp only [Option.some.injEq] at hf
  subst hf
  exact hspec N hN b c l hl
theorem r_SameWords (C : Ctx) : Runs C ir32 s_SameW := R_SameW fun N hN b c l hl => by
  have hll : l.length ≤ maxLen := by simp only [EVl, List.length_map] at hl; exact hl.1.1
  simp -dsimp only [runE, run_eq, ir32, EVs, ↓EVd, ↓reduceIte, zA, zB, zC, zD, zE, zF, reduceBEq, reduceCtorEq, zG, zH, zI, zJ, zK, dcells, okc]
  generalize hI : iter _ _ _ _ = I
  revert I
  refine iter_all l (fun j _ => ⟨[(0, .lst b (l.map uD)), (1, .lst c (l.map uD)), (5, .v (.int .i64 j))], [], 0⟩) (fun (_ : Unit) _ => ()) (fun _ _ => True) () hll hN ?_ trivial ?_ ?_
  · simp -dsimp only [EVs, ↓EVd, ↓reduceIte, zA, zB, zC, zD, zE, zF, reduceBEq, reduceCtorEq, zG, zH, zI, zJ, zK, dcells, okc]
  · intro j _ x hj hjw hx _
    refine ⟨?_, trivial⟩
    have hd : decide (x = x) = true := decide_eq_true rfl
    simp -dsimp only [lp32x0, hj, hjw, hx, uD, hd, EVs, ↓EVd, ↓reduceIte, zA, zB, zC, zD, zE, zF, reduceBEq, reduceCtorEq, zG, zH, zI, zJ, zK, dcells, okc]
  · intro _
    simp -dsimp only [lp32x0, EVs, ↓EVd, ↓reduceIte, zA, zB, zC, zD, zE, zF, reduceBEq, reduceCtorEq, zG, zH, zI, zJ, zK, dcells, okc]
theorem write_cases (m : Mc) (rs : List Int) (reg x e : Int) (h : e = 0 → ∃ r, m.regs[reg.toNat]? = some r) : (∃ E : Int, writeD m rs reg x e = .tup [.lst true [], .v (.int .i64 E)] ∧ ∀ hp nx, writeW m rs reg x e hp nx = (.tup [.lst true [], .v (.int .i64 E)], hp, nx)) ∨
    ∃ l : List Int, l.length = rs.length ∧ writeD m rs reg x e = .tup [.lst false (l.map uD), .v (.int .i64 0)] ∧ ∀ hp nx, writeW m rs reg x e hp nx = (.tup [.own (nx + 1) rs.length, .v (.int .i64 0)], (nx + 1, .box (l.map uV)) :: (nx, .box m.d) :: hp, nx + 2) := by
  unfold writeD writeW
  cases h0 : decide (e = 0) with
  | false => exact .inl ⟨_, rfl, fun _ _ => rfl⟩
  | true =>
    obtain ⟨r, hr⟩ := h (by simpa using h0)
    simp only [hr, Bool.not_true, cond_false]
    cases okI r.width x with
    | false => exact .inl ⟨_, rfl, fun _ _ => rfl⟩
    | true => exact .inr ⟨_, List.length_set, rfl, fun _ _ => rfl⟩
theorem read_tup (m : Mc) (rs : List Int) (reg e : Int) (h : e = 0 → ∃ r, m.regs[reg.toNat]? = some r) : ∃ v k : Int, readD m rs reg e = .tup [.v (.int .u64 v), .v (.int .i64 k)] := by
  unfold readD
  cases h0 : decide (e = 0) with
  | false => exact ⟨_, _, rfl⟩
  | true =>
    obtain ⟨r, hr⟩ := h (by simpa using h0)
    simp only [hr, Bool.not_true, cond_false]
    exact ⟨_, _, rfl⟩
end Go.Proofs.Dv
set_option linter.unusedVariables false
set_option linter.unusedSimpArgs false
set_option maxRecDepth 100000
namespace Go.Proofs.Dv
open Go.RowKit
open Nat renaming reduceEqDiff → zA, reduceAdd → zB, reduceSub → zC, reduceLeDiff → zD, reduceLT → zE, reduceMul → zF
open Int renaming reduceToNat → zG, reduceLE → zH, reduceLT → zI
open List renaming set_cons_zero → zJ, set_cons_succ → zK
theorem shl1 {k : Int} (h0 : 0 ≤ k) (h : k ≤ 62) : IntKind.i64.wrap (1 * 2 ^ (min k.toNat IntKind.i64.bits)) = p2 k.toNat := by
  have e : min k.toNat IntKind.i64.bits = k.toNat := Nat.min_eq_left (by show k.toNat ≤ 64; omega)
  have h1 := p2_pos k.toNat
  have h2 := p2_mono (show k.toNat ≤ 62 by omega)
  rw [p2_62] at h2
  rw [e, Int.one_mul]
  show IntKind.i64.wrap (p2 k.toNat) = _
  exact wr _ (by omega) (by omega)
theorem shlm {k : Int} (h0 : 0 ≤ k) (h : k ≤ 62) : IntKind.i64.wrap (-1 * 2 ^ (min k.toNat IntKind.i64.bits)) = -p2 k.toNat := by
  have e : min k.toNat IntKind.i64.bits = k.toNat := Nat.min_eq_left (by show k.toNat ≤ 64; omega)
  have h1 := p2_pos k.toNat
  have h2 := p2_mono (show k.toNat ≤ 62 by omega)
  rw [p2_62] at h2
  rw [e, Int.neg_mul, Int.one_mul]
  show IntKind.i64.wrap (-p2 k.toNat) = _
  exact wr _ (by omega) (by omega)
theorem tdiv_i64 {n : Int} (h : I64 n) (k : Nat) : IntKind.i64.wrap (n.tdiv (p2 k)) = n.tdiv (p2 k) := by
  have hp := p2_pos k
  obtain ⟨h1, h2⟩ := h
  have key : ∀ m : Int, 0 ≤ m → 0 ≤ m.tdiv (p2 k) ∧ m.tdiv (p2 k) ≤ m := by
    intro m hm
    rw [Int.tdiv_eq_ediv_of_nonneg hm]
    exact ⟨Int.ediv_nonneg hm (by omega), Int.ediv_le_self _ hm⟩
  rcases Int.le_total 0 n with h0 | h0
  · have := key n h0
    exact wr _ (by omega) (by omega)
  · have h3 := key (-n) (by omega)
    rw [Int.neg_tdiv] at h3
    exact wr _ (by omega) (by omega)
def rngB (o : Opn) (n : Int) : Bool := decide (n.tmod (p2 o.scale.toNat) = 0) && (if o.kind = 3 then inB (n.tdiv (p2 o.scale.toNat)) 0 (p2 (fieldOf o.pieces).toNat - 1) else inB (n.tdiv (p2 o.scale.toNat)) (-p2 (fieldOf o.pieces - 1).toNat) (p2 (fieldOf o.pieces - 1).toNat - 1))
def x_Rng (a : Opn × Int) : List D := match a with | (o, n) => [.agg o.d, .v (.int .i64 n)]
theorem i_Rng : ∀ a b, x_Rng a = x_Rng b → a = b := by
  rintro ⟨o, n⟩ ⟨o', n'⟩ h
  first | simpa [x_Rng, INJ, and_assoc, Int.ofNat_inj] using h | (simp [x_Rng, INJ, and_assoc, Int.ofNat_inj] at h; simp_all)
open Classical in
noncomputable def s_Rng : List D → Option D := sOf x_Rng fun a => match a with | (o, n) => if (0 ≤ o.scale ∧ o.scale ≤ 3 ∧ 1 ≤ fieldOf o.pieces ∧ fieldOf o.pieces ≤ 32 ∧ I64 n) then some (.v (.bool (rngB o n))) else none
theorem e_Rng {o : Opn} {n : Int} (hc : (0 ≤ o.scale ∧ o.scale ≤ 3 ∧ 1 ≤ fieldOf o.pieces ∧ fieldOf o.pieces ≤ 32 ∧ I64 n)) : s_Rng [.agg o.d, .v (.int .i64 n)] = some (.v (.bool (rngB o n))) := (sOf_eq i_Rng (o, n)).trans (if_pos hc)
theorem R_Rng {C : Ctx} {F : IFun} (hspec : ∀ N, maxLen + 10 < N → ∀ (o : Opn) (n : Int), lenOK.lenOKs [.agg o.d, .v (.int .i64 n)] → (0 ≤ o.scale ∧ o.scale ≤ 3 ∧ 1 ≤ fieldOf o.pieces ∧ fieldOf o.pieces ≤ 32 ∧ I64 n) → runE C N F [.agg o.d, .v (.int .i64 n)] = some (.v (.bool (rngB o n)))) : Runs C F (s_Rng) := runs_of i_Rng fun N hN a r hl hf => by
  obtain ⟨o, n⟩ := a
  simp only [Option.ite_none_right_eq_some, Option.some.injEq] at hf
  obtain ⟨hc, rfl⟩ := hf
  exact hspec N hN o n hl hc
theorem r_ranged (C : Ctx) (hF : C.T 144 = some s_Fld) (hW : C.T 58 = some s_in) : Runs C ir99 s_Rng := R_Rng fun N hN o n hl hc => by
  obtain ⟨c1, c2, c3, c4, c5⟩ := hc
  have e6 := @e_Fld o
  simp only [Opn.d] at e6
  unfold rngB
  generalize fieldOf o.pieces = F at *
  have g0 : decide (o.scale < 0) = false := decide_eq_false (by omega)
  have g1 := shl1 c1 (by omega)
  have g2 : decide (p2 o.scale.toNat = 0) = false := decide_eq_false (by have := p2_pos o.scale.toNat; omega)
  have g3 := tdiv_i64 c5 o.scale.toNat
  have g4 : decide (F < 0) = false := decide_eq_false (by omega)
  have g5 := shl1 (k := F) (by omega) (by omega)
  have g6 : IntKind.i64.wrap (F - 1) = F - 1 := wr _ (by omega) (by omega)
  have g7 : decide (F - 1 < 0) = false := decide_eq_false (by omega)
  have g8 := shl1 (k := F - 1) (by omega) (by omega)
  have g9 := shlm (k := F - 1) (by omega) (by omega)
  have b1 := p2_mono (show F.toNat ≤ 62 by omega)
  have b2 := p2_mono (show (F - 1).toNat ≤ 62 by omega)
  rw [p2_62] at b1 b2
  have b3 := p2_pos F.toNat
  have b4 := p2_pos (F - 1).toNat
  have g10 : IntKind.i64.wrap (p2 F.toNat - 1) = p2 F.toNat - 1 := wr _ (by omega) (by omega)
  have g11 : IntKind.i64.wrap (p2 (F - 1).toNat - 1) = p2 (F - 1).toNat - 1 := wr _ (by omega) (by omega)
  have w1 := @e_in (n.tdiv (p2 o.scale.toNat)) 0 (p2 F.toNat - 1)
  have w2 := @e_in (n.tdiv (p2 o.scale.toNat)) (-p2 (F - 1).toNat) (p2 (F - 1).toNat - 1)
  cases k1 : decide (n.tmod (p2 o.scale.toNat) = 0)
  · simp -dsimp only [runE, run_eq, ir99, Opn.d, g0, g1, g2, g3, k1, EVs, ↓EVd, ↓reduceIte, zA, zB, zC, zD, zE, zF, reduceBEq, reduceCtorEq, zG, zH, zI, zJ, zK, dcells, okc]
  by_cases k2 : o.kind = 3
  · have k2' : decide (o.kind = 3) = true := decide_eq_true k2
    rw [if_pos k2]
    simp -dsimp only [runE, run_eq, ir99, Opn.d, g0, g1, g2, g3, k1, k2', hF, e6, g4, g5, g10, hW, w1, EVs, ↓EVd, ↓reduceIte, zA, zB, zC, zD, zE, zF, reduceBEq, reduceCtorEq, zG, zH, zI, zJ, zK, dcells, okc]
  · have k2' : decide (o.kind = 3) = false := decide_eq_false k2
    rw [if_neg k2]
    simp -dsimp only [runE, run_eq, ir99, Opn.d, g0, g1, g2, g3, k1, k2', hF, e6, g6, g7, g8, g9, g11, hW, w2, EVs, ↓EVd, ↓reduceIte, zA, zB, zC, zD, zE, zF, reduceBEq, reduceCtorEq, zG, zH, zI, zJ, zK, dcells, okc]
end Go.Proofs.Dv
set_option linter.unusedVariables false
set_option linter.unusedSimpArgs false
set_option maxRecDepth 100000
namespace Go.Proofs.Dv
open Go.RowKit
open Nat renaming reduceEqDiff → zA, reduceAdd → zB, reduceSub → zC, reduceLeDiff → zD, reduceLT → zE, reduceMul → zF
open Int renaming reduceToNat → zG, reduceLE → zH, reduceLT → zI
open List renaming set_cons_zero → zJ, set_cons_succ → zK
def bankRegs (m : Mc) (o : Opn) : List Int := match atI m.banks o.bank with | some b => b.regs | none => []
def suitAt (m : Mc) (args : List Int) (i : Nat) (o : Opn) : Int :=
  if o.kind = 1 then (bif !has ((args[i]?).getD 0) (bankRegs m o) then 16 else bif decide (0 ≤ o.tied) && !decide ((atI args o.tied).getD 0 = (args[i]?).getD 0) then 40 else 0)
  else bif rngB o ((args[i]?).getD 0) then 0 else 24
def scR : Sc Nat Int → Int
  | .go _ => 0
  | .out c => c
def suitS (m : Mc) (op : Mo) (s : Ins) : Sc Nat Int := scan (tst (fun i o => decide (suitAt m op.args i o = 0)) (fun i _ => i + 1) fun i o => suitAt m op.args i o) 0 s.operands
def suits (m : Mc) (op : Mo) : Int := bif !inB op.instr 0 (IntKind.i64.wrap ((m.instrs.length : Int) - 1)) then 6 else
  match m.instrs[op.instr.toNat]? with
  | none => 6
  | some s => bif !decide ((op.args.length : Int) = s.operands.length) then 2 else scR (suitS m op s)
def OpFine (m : Mc) (L : Nat) (o : Opn) : Prop := (o.kind = 1 → (∃ b, atI m.banks o.bank = some b) ∧ o.tied < L) ∧ (¬ o.kind = 1 → 0 ≤ o.scale ∧ o.scale ≤ 3 ∧ 1 ≤ fieldOf o.pieces ∧ fieldOf o.pieces ≤ 32)
def Fine (m : Mc) : Prop := m.instrs.length ≤ 1000 ∧ ∀ s ∈ m.instrs, s.operands.length ≤ 1000 ∧ ∀ o ∈ s.operands, OpFine m s.operands.length o
def cop (m : Mc) (op : Mo) : Int := bif decide (chkM m = 0) then suits m op else chkM m
theorem args_at {op : Mo} {s : Ins} {j : Nat} {o : Opn} (h : decide ((op.args.length : Int) = s.operands.length) = true) (ho : s.operands[j]? = some o) : ∃ n, op.args[j]? = some n := by
  have := (List.getElem?_eq_some_iff.1 ho).1
  simp only [decide_eq_true_eq] at h
  exact ⟨_, List.getElem?_eq_getElem (by omega)⟩
theorem tied_at {op : Mo} {s : Ins} {t : Int} (h : decide ((op.args.length : Int) = s.operands.length) = true) (ht : t < s.operands.length) (h0 : decide (0 ≤ t) = true) : ∃ n, op.args[t.toNat]? = some n ∧ (atI op.args t).getD 0 = n := by
  simp only [decide_eq_true_eq] at h h0
  have e : op.args[t.toNat]? = some (op.args[t.toNat]'(by omega)) := List.getElem?_eq_getElem _
  exact ⟨_, e, by unfold atI; rw [if_pos h0, e]; rfl⟩
def x_COp (a : Mc × Mo) : List D := match a with | (m, op) => [.agg m.d, .agg op.d]
theorem i_COp : ∀ a b, x_COp a = x_COp b → a = b := by
  rintro ⟨m, op⟩ ⟨m', op'⟩ h
  first | simpa [x_COp, INJ, and_assoc, Int.ofNat_inj] using h | (simp [x_COp, INJ, and_assoc, Int.ofNat_inj] at h; simp_all)
open Classical in
noncomputable def s_COp : List D → Option D := sOf x_COp fun a => match a with | (m, op) => if ((∀ i ∈ m.instrs, ∀ e ∈ i.effects, TOK e.addr ∧ TOK e.value ∧ TOK e.cond) ∧ (chkM m = 0 → Fine m) ∧ ∀ a ∈ op.args, I64 a) then some (.v (.int .i64 (cop m op))) else none
theorem e_COp {m : Mc} {op : Mo} (hc : ((∀ i ∈ m.instrs, ∀ e ∈ i.effects, TOK e.addr ∧ TOK e.value ∧ TOK e.cond) ∧ (chkM m = 0 → Fine m) ∧ ∀ a ∈ op.args, I64 a)) : s_COp [.agg m.d, .agg op.d] = some (.v (.int .i64 (cop m op))) := (sOf_eq i_COp (m, op)).trans (if_pos hc)
theorem R_COp {C : Ctx} {F : IFun} (hspec : ∀ N, maxLen + 10 < N → ∀ (m : Mc) (op : Mo), lenOK.lenOKs [.agg m.d, .agg op.d] → ((∀ i ∈ m.instrs, ∀ e ∈ i.effects, TOK e.addr ∧ TOK e.value ∧ TOK e.cond) ∧ (chkM m = 0 → Fine m) ∧ ∀ a ∈ op.args, I64 a) → runE C N F [.agg m.d, .agg op.d] = some (.v (.int .i64 (cop m op)))) : Runs C F (s_COp) := runs_of i_COp fun N hN a r hl hf => by
  obtain ⟨m, op⟩ := a
  simp only [Option.ite_none_right_eq_some, Option.some.injEq] at hf
  obtain ⟨hc, rfl⟩ := hf
  exact hspec N hN m op hl hc
set_option maxHeartbeats 2000000 in
theorem r_CheckOp (C : Ctx) (hM : C.T 14 = some s_ChkM) (hW : C.T 58 = some s_in) (hR : C.T 99 = some s_Rng) (hH : C.T 100 = some s_HasI) : Runs C ir36 s_COp := R_COp fun N hN m op hl hc => by
  obtain ⟨t1, t2, t3⟩ := hc
  have eM := @e_ChkM m t1
  simp only [Mc.d] at eM
  unfold cop
  cases h0 : decide (chkM m = 0)
  · simp -dsimp only [runE, run_eq, ir36, Mc.d, Mo.d, hM, eM, h0, EVs, ↓EVd, ↓reduceIte, zA, zB, zC, zD, zE, zF, reduceBEq, reduceCtorEq, zG, zH, zI, zJ, zK, dcells, okc]
  obtain ⟨f1, f2⟩ := t2 (by simpa using h0)
  have w1 := @e_in op.instr 0 (IntKind.i64.wrap ((m.instrs.length : Int) - 1))
  rw [cond_true]
  unfold suits
  cases h1 : inB op.instr 0 (IntKind.i64.wrap ((m.instrs.length : Int) - 1))
  · simp -dsimp only [runE, run_eq, ir36, Mc.d, Mo.d, hM, eM, h0, hW, w1, h1, EVs, ↓EVd, ↓reduceIte, zA, zB, zC, zD, zE, zF, reduceBEq, reduceCtorEq, zG, zH, zI, zJ, zK, dcells, okc]
  obtain ⟨hge, s, hs⟩ := inB_get (by omega) h1
  obtain ⟨f3, f4⟩ := f2 s (List.mem_of_getElem? hs)
  rw [hs]
  simp only [Bool.not_true, cond_false]
  cases h2 : decide ((op.args.length : Int) = s.operands.length)
  · simp -dsimp only [runE, run_eq, ir36, Mc.d, Mo.d, Ins.d, hM, eM, h0, hW, w1, h1, hge, hs, h2, EVs, ↓EVd, ↓reduceIte, zA, zB, zC, zD, zE, zF, reduceBEq, reduceCtorEq, zG, zH, zI, zJ, zK, dcells, okc]
  have hml := maxLen_ge
  rw [Bool.not_true, cond_false]
  simp -dsimp only [runE, run_eq, ir36, Mc.d, Mo.d, Ins.d, hM, eM, h0, hW, w1, h1, hge, hs, h2, EVs, ↓EVd, ↓reduceIte, zA, zB, zC, zD, zE, zF, reduceBEq, reduceCtorEq, zG, zH, zI, zJ, zK, dcells, okc]
  generalize hI : iter _ _ _ _ = I
  revert I
  refine iter_test s.operands (fun j _ => ⟨[(2, .ptr 0 0), (3, .ptr 1 0), (37, .lst false (s.operands.map Opn.d)), (38, .v (.int .i64 s.operands.length)), (39, .v (.int .i64 j))], [(2, .box s.d), (1, .box op.d), (0, .box m.d)], 3⟩) (fun (i : Nat) o => decide (suitAt m op.args i o = 0)) (fun i _ => i + 1) (fun i o => suitAt m op.args i o) (fun i a => a = i) 0 (by omega) hN ?_ rfl ?_ ?_ ?_
  · simp -dsimp only [Mc.d, Mo.d, Ins.d, EVs, ↓EVd, ↓reduceIte, zA, zB, zC, zD, zE, zF, reduceBEq, reduceCtorEq, zG, zH, zI, zJ, zK, dcells, okc]
  · rintro _ j o hj hjw ho rfl
    refine ⟨?_, fun _ => rfl⟩
    obtain ⟨n, hn⟩ := args_at h2 ho
    obtain ⟨q1, q2⟩ := f4 o (List.mem_of_getElem? ho)
    by_cases hk : o.kind = 1
    · have hk' : decide (o.kind = 1) = true := decide_eq_true hk
      obtain ⟨⟨b, hb⟩, htl⟩ := q1 hk
      have hb1 := at_some hb
      have eH := @e_HasI false b.regs n
      cases c1 : has n b.regs
      · have hq : suitAt m op.args j o = 16 := by simp only [suitAt, if_pos hk, bankRegs, hb, hn, Option.getD_some, c1]; rfl
        simp -dsimp only [lp36x0, Mc.d, Mo.d, Ins.d, Opn.d, Bk.d, iD, hj, hjw, ho, hn, hk', hb1.1, hb1.2, hH, eH, c1, hq, Int.reduceEq, EVs, ↓EVd, ↓reduceIte, zA, zB, zC, zD, zE, zF, reduceBEq, reduceCtorEq, zG, zH, zI, zJ, zK, dcells, okc]
      · cases c2 : decide (0 ≤ o.tied)
        · have hq : suitAt m op.args j o = 0 := by simp only [suitAt, if_pos hk, bankRegs, hb, hn, Option.getD_some, c1, c2]; rfl
          simp -dsimp only [lp36x0, Mc.d, Mo.d, Ins.d, Opn.d, Bk.d, iD, hj, hjw, ho, hn, hk', hb1.1, hb1.2, hH, eH, c1, c2, hq, EVs, ↓EVd, ↓reduceIte, zA, zB, zC, zD, zE, zF, reduceBEq, reduceCtorEq, zG, zH, zI, zJ, zK, dcells, okc]
        · obtain ⟨n', hn1, hn2⟩ := tied_at h2 htl c2
          cases c3 : decide (n' = n)
          · have hq : suitAt m op.args j o = 40 := by simp only [suitAt, if_pos hk, bankRegs, hb, hn, Option.getD_some, c1, c2, hn2, c3]; rfl
            simp -dsimp only [lp36x0, Mc.d, Mo.d, Ins.d, Opn.d, Bk.d, iD, hj, hjw, ho, hn, hk', hb1.1, hb1.2, hH, eH, c1, c2, hn1, c3, hq, Int.reduceEq, EVs, ↓EVd, ↓reduceIte, zA, zB, zC, zD, zE, zF, reduceBEq, reduceCtorEq, zG, zH, zI, zJ, zK, dcells, okc]
          · have hq : suitAt m op.args j o = 0 := by simp only [suitAt, if_pos hk, bankRegs, hb, hn, Option.getD_some, c1, c2, hn2, c3]; rfl
            simp -dsimp only [lp36x0, Mc.d, Mo.d, Ins.d, Opn.d, Bk.d, iD, hj, hjw, ho, hn, hk', hb1.1, hb1.2, hH, eH, c1, c2, hn1, c3, hq, EVs, ↓EVd, ↓reduceIte, zA, zB, zC, zD, zE, zF, reduceBEq, reduceCtorEq, zG, zH, zI, zJ, zK, dcells, okc]
    · have hk' : decide (o.kind = 1) = false := decide_eq_false hk
      obtain ⟨r1, r2, r3, r4⟩ := q2 hk
      have eR := @e_Rng o n ⟨r1, r2, r3, r4, t3 n (List.mem_of_getElem? hn)⟩
      simp only [Opn.d] at eR
      cases c1 : rngB o n
      · have hq : suitAt m op.args j o = 24 := by simp only [suitAt, if_neg hk, hn, Option.getD_some, c1]; rfl
        simp -dsimp only [lp36x0, Mc.d, Mo.d, Ins.d, Opn.d, Bk.d, iD, hj, hjw, ho, hn, hk', hR, eR, c1, hq, Int.reduceEq, EVs, ↓EVd, ↓reduceIte, zA, zB, zC, zD, zE, zF, reduceBEq, reduceCtorEq, zG, zH, zI, zJ, zK, dcells, okc]
      · have hq : suitAt m op.args j o = 0 := by simp only [suitAt, if_neg hk, hn, Option.getD_some, c1]; rfl
        simp -dsimp only [lp36x0, Mc.d, Mo.d, Ins.d, Opn.d, Bk.d, iD, hj, hjw, ho, hn, hk', hR, eR, c1, hq, EVs, ↓EVd, ↓reduceIte, zA, zB, zC, zD, zE, zF, reduceBEq, reduceCtorEq, zG, zH, zI, zJ, zK, dcells, okc]
  · rintro _ j o hj ho rfl hsc
    have hsc' : suitS m op s = .out (suitAt m op.args j o) := hsc
    rw [hsc']
    obtain ⟨n, hn⟩ := args_at h2 ho
    obtain ⟨q1, q2⟩ := f4 o (List.mem_of_getElem? ho)
    by_cases hk : o.kind = 1
    · have hk' : decide (o.kind = 1) = true := decide_eq_true hk
      obtain ⟨⟨b, hb⟩, htl⟩ := q1 hk
      have hb1 := at_some hb
      have eH := @e_HasI false b.regs n
      cases c1 : has n b.regs
      · have hq : suitAt m op.args j o = 16 := by simp only [suitAt, if_pos hk, bankRegs, hb, hn, Option.getD_some, c1]; rfl
        simp -dsimp only [lp36x0, Mc.d, Mo.d, Ins.d, Opn.d, Bk.d, iD, hj, ho, hn, hk', hb1.1, hb1.2, hH, eH, c1, hq, Int.reduceEq, scR, EVs, ↓EVd, ↓reduceIte, zA, zB, zC, zD, zE, zF, reduceBEq, reduceCtorEq, zG, zH, zI, zJ, zK, dcells, okc]
      · cases c2 : decide (0 ≤ o.tied)
        · have hq : suitAt m op.args j o = 0 := by simp only [suitAt, if_pos hk, bankRegs, hb, hn, Option.getD_some, c1, c2]; rfl
          simp -dsimp only [lp36x0, Mc.d, Mo.d, Ins.d, Opn.d, Bk.d, iD, hj, ho, hn, hk', hb1.1, hb1.2, hH, eH, c1, c2, hq, scR, EVs, ↓EVd, ↓reduceIte, zA, zB, zC, zD, zE, zF, reduceBEq, reduceCtorEq, zG, zH, zI, zJ, zK, dcells, okc]
        · obtain ⟨n', hn1, hn2⟩ := tied_at h2 htl c2
          cases c3 : decide (n' = n)
          · have hq : suitAt m op.args j o = 40 := by simp only [suitAt, if_pos hk, bankRegs, hb, hn, Option.getD_some, c1, c2, hn2, c3]; rfl
            simp -dsimp only [lp36x0, Mc.d, Mo.d, Ins.d, Opn.d, Bk.d, iD, hj, ho, hn, hk', hb1.1, hb1.2, hH, eH, c1, c2, hn1, c3, hq, Int.reduceEq, scR, EVs, ↓EVd, ↓reduceIte, zA, zB, zC, zD, zE, zF, reduceBEq, reduceCtorEq, zG, zH, zI, zJ, zK, dcells, okc]
          · have hq : suitAt m op.args j o = 0 := by simp only [suitAt, if_pos hk, bankRegs, hb, hn, Option.getD_some, c1, c2, hn2, c3]; rfl
            simp -dsimp only [lp36x0, Mc.d, Mo.d, Ins.d, Opn.d, Bk.d, iD, hj, ho, hn, hk', hb1.1, hb1.2, hH, eH, c1, c2, hn1, c3, hq, scR, EVs, ↓EVd, ↓reduceIte, zA, zB, zC, zD, zE, zF, reduceBEq, reduceCtorEq, zG, zH, zI, zJ, zK, dcells, okc]
    · have hk' : decide (o.kind = 1) = false := decide_eq_false hk
      obtain ⟨r1, r2, r3, r4⟩ := q2 hk
      have eR := @e_Rng o n ⟨r1, r2, r3, r4, t3 n (List.mem_of_getElem? hn)⟩
      simp only [Opn.d] at eR
      cases c1 : rngB o n
      · have hq : suitAt m op.args j o = 24 := by simp only [suitAt, if_neg hk, hn, Option.getD_some, c1]; rfl
        simp -dsimp only [lp36x0, Mc.d, Mo.d, Ins.d, Opn.d, Bk.d, iD, hj, ho, hn, hk', hR, eR, c1, hq, Int.reduceEq, scR, EVs, ↓EVd, ↓reduceIte, zA, zB, zC, zD, zE, zF, reduceBEq, reduceCtorEq, zG, zH, zI, zJ, zK, dcells, okc]
      · have hq : suitAt m op.args j o = 0 := by simp only [suitAt, if_neg hk, hn, Option.getD_some, c1]; rfl
        simp -dsimp only [lp36x0, Mc.d, Mo.d, Ins.d, Opn.d, Bk.d, iD, hj, ho, hn, hk', hR, eR, c1, hq, scR, EVs, ↓EVd, ↓reduceIte, zA, zB, zC, zD, zE, zF, reduceBEq, reduceCtorEq, zG, zH, zI, zJ, zK, dcells, okc]
  · rintro _ rfl hsc
    have hsc' : suitS m op s = .go s.operands.length := hsc
    rw [hsc']
    simp -dsimp only [lp36x0, scR, EVs, ↓EVd, ↓reduceIte, zA, zB, zC, zD, zE, zF, reduceBEq, reduceCtorEq, zG, zH, zI, zJ, zK, dcells, okc]
end Go.Proofs.Dv
set_option linter.unusedVariables false
set_option linter.unusedSimpArgs false
set_option maxRecDepth 100000
namespace Go.Proofs.Dv
open Go.RowKit
open Nat renaming reduceEqDiff → zA, reduceAdd → zB, reduceSub → zC, reduceLeDiff → zD, reduceLT → zE, reduceMul → zF
open Int renaming reduceToNat → zG, reduceLE → zH, reduceLT → zI
open List renaming set_cons_zero → zJ, set_cons_succ → zK
end Go.Proofs.Dv
set_option linter.unusedVariables false
set_option linter.unusedSimpArgs false
set_option maxRecDepth 100000
namespace Go.Proofs.Dv
open Go.RowKit
open Nat renaming reduceEqDiff → zA, reduceAdd → zB, reduceSub → zC, reduceLeDiff → zD, reduceLT → zE, reduceMul → zF
open Int renaming reduceToNat → zG, reduceLE → zH, reduceLT → zI
open List renaming set_cons_zero → zJ, set_cons_succ → zK
def vN (m : Mc) (pc : Int) (o : Opn) (n : Int) : Int := if o.kind = 4 then pc + m.word * (n + 1) else n
def vB (m : Mc) (pc : Int) (o : Opn) (n : Int) : Bn := ⟨o.name, m.address, vN m pc o n % p2 m.address.toNat⟩
def vStep (m : Mc) (op : Mo) (pc : Int) (a : Nat × List Bn) (o : Opn) : Nat × List Bn := (a.1 + 1, if o.kind = 1 then a.2 else a.2 ++ [vB m pc o ((op.args[a.1]?).getD 0)])
def varsL (m : Mc) (op : Mo) (pc : Int) : List Bn := match m.instrs[op.instr.toNat]? with
  | some s => (s.operands.foldl (vStep m op pc) (0, [])).2 ++ [⟨strK [112, 99], m.address, pc⟩]
  | none => []
def vcode (m : Mc) (pc c : Int) : Int := bif decide (c = 0) then (bif decide (pc < p2 m.address.toNat) then 0 else 24) else c
def varsD (m : Mc) (op : Mo) (pc c : Int) : D := .tup [if vcode m pc c = 0 then .lst false ((varsL m op pc).map Bn.d) else .lst true [], .v (.int .i64 (vcode m pc c))]
theorem uwrap (y : Int) : IntKind.u64.wrap y = y % 18446744073709551616 := by simp [IntKind.wrap, IntKind.bits, IntKind.signed]
theorem umask {a : Int} (ha : a = 16 ∨ a = 32) {x : Int} (h0 : 0 ≤ x) (h1 : x < 18446744073709551616) : uand x (mskI a) = x % p2 a.toNat := by
  obtain ⟨X, rfl⟩ : ∃ X : Nat, x = X := ⟨x.toNat, by omega⟩
  have key : ∀ k : Nat, k ≤ 63 → uand (X : Int) ((2 ^ k - 1 : Nat) : Int) = ((X % 2 ^ k : Nat) : Int) := by
    intro k hk
    have h2 : 2 ^ k ≤ 2 ^ 63 := Nat.pow_le_pow_right (by omega) hk
    have h3 : (2 : Nat) ^ 63 < 2 ^ 64 := by decide
    rw [uand_nat (by omega) (by omega), Nat.and_two_pow_sub_one_eq_mod]
  rcases ha with rfl | rfl
  · exact key 16 (by omega)
  · exact key 32 (by omega)
theorem bits_m {m : Mc} (ha : m.address = 16 ∨ m.address = 32) (hw : 1 ≤ m.word ∧ m.word ≤ 4) {pc n : Int} (hp : U64 pc) :
    uand (IntKind.u64.wrap (pc + IntKind.u64.wrap (IntKind.u64.wrap m.word * IntKind.u64.wrap (IntKind.u64.wrap n + 1)))) (mskI m.address) = (pc + m.word * (n + 1)) % p2 m.address.toNat ∧
    uand (IntKind.u64.wrap n) (mskI m.address) = n % p2 m.address.toNat := by
  have h16 : p2 (16 : Int).toNat = 65536 := rfl
  have h32 : p2 (32 : Int).toNat = 4294967296 := rfl
  simp only [uwrap]
  constructor
  · rw [umask ha (by omega) (by omega)]
    have hm : m.word = 1 ∨ m.word = 2 ∨ m.word = 3 ∨ m.word = 4 := by omega
    rcases hm with h | h | h | h <;> rcases ha with h' | h' <;> rw [h, h'] <;> simp only [h16, h32] <;> omega
  · rw [umask ha (by omega) (by omega)]
    rcases ha with h' | h' <;> rw [h'] <;> simp only [h16, h32] <;> omega
def x_VarsMv (a : Mc × Mo × Int) : List D := match a with | (m, op, pc) => [.agg m.d, .agg op.d, .v (.int .u64 pc)]
theorem i_VarsMv : ∀ a b, x_VarsMv a = x_VarsMv b → a = b := by
  rintro ⟨m, op, pc⟩ ⟨m', op', pc'⟩ h
  first | simpa [x_VarsMv, INJ, and_assoc, Int.ofNat_inj] using h | (simp [x_VarsMv, INJ, and_assoc, Int.ofNat_inj] at h; simp_all)
open Classical in
noncomputable def s_VarsMv : List D → Option D := sOf x_VarsMv fun a => match a with | (m, op, pc) => if ((∀ i ∈ m.instrs, ∀ e ∈ i.effects, TOK e.addr ∧ TOK e.value ∧ TOK e.cond) ∧ (chkM m = 0 → Fine m ∧ (m.address = 16 ∨ m.address = 32) ∧ (1 ≤ m.word ∧ m.word ≤ 4)) ∧ (∀ a ∈ op.args, I64 a) ∧ U64 pc) then some (varsD m op pc (cop m op)) else none
theorem e_VarsMv {m : Mc} {op : Mo} {pc : Int} (hc : ((∀ i ∈ m.instrs, ∀ e ∈ i.effects, TOK e.addr ∧ TOK e.value ∧ TOK e.cond) ∧ (chkM m = 0 → Fine m ∧ (m.address = 16 ∨ m.address = 32) ∧ (1 ≤ m.word ∧ m.word ≤ 4)) ∧ (∀ a ∈ op.args, I64 a) ∧ U64 pc)) : s_VarsMv [.agg m.d, .agg op.d, .v (.int .u64 pc)] = some (varsD m op pc (cop m op)) := (sOf_eq i_VarsMv (m, op, pc)).trans (if_pos hc)
theorem R_VarsMv {C : Ctx} {F : IFun} (hspec : ∀ N, maxLen + 10 < N → ∀ (m : Mc) (op : Mo) (pc : Int), lenOK.lenOKs [.agg m.d, .agg op.d, .v (.int .u64 pc)] → ((∀ i ∈ m.instrs, ∀ e ∈ i.effects, TOK e.addr ∧ TOK e.value ∧ TOK e.cond) ∧ (chkM m = 0 → Fine m ∧ (m.address = 16 ∨ m.address = 32) ∧ (1 ≤ m.word ∧ m.word ≤ 4)) ∧ (∀ a ∈ op.args, I64 a) ∧ U64 pc) → runE C N F [.agg m.d, .agg op.d, .v (.int .u64 pc)] = some (varsD m op pc (cop m op))) : Runs C F (s_VarsMv) := runs_of i_VarsMv fun N hN a r hl hf => by
  obtain ⟨m, op, pc⟩ := a
  simp only [Option.ite_none_right_eq_some, Option.some.injEq] at hf
  obtain ⟨hc, rfl⟩ := hf
  exact hspec N hN m op pc hl hc
theorem scan_len {α : Type} {t : Nat → α → Bool} {v : Nat → α → Int} : ∀ (l : List α) (k r : Nat), scan (tst t (fun i _ => i + 1) v) k l = .go r → ∀ j x, l[j]? = some x → t (k + j) x = true
  | [], k, r, _ => fun j x hx => by simp at hx
  | y :: l, k, r, h => by
    simp only [scan, tst] at h
    cases ht : t k y with
    | false => rw [ht] at h; simp at h
    | true =>
      rw [ht] at h
      intro j x hx
      cases j with
      | zero => simp at hx; subst hx; exact ht
      | succ j =>
        have := scan_len l (k + 1) r (by simpa using h) j x (by simpa using hx)
        rwa [show k + 1 + j = k + (j + 1) by omega] at this
theorem suits_ok {m : Mc} {op : Mo} (hl : m.instrs.length ≤ 1000000) (h : suits m op = 0) : decide (0 ≤ op.instr) = true ∧ ∃ s, m.instrs[op.instr.toNat]? = some s ∧ decide ((op.args.length : Int) = s.operands.length) = true ∧ ∀ j o, s.operands[j]? = some o → suitAt m op.args j o = 0 := by
  unfold suits at h
  cases h1 : inB op.instr 0 (IntKind.i64.wrap ((m.instrs.length : Int) - 1)) with
  | false => rw [h1] at h; simp at h
  | true =>
    obtain ⟨hge, s, hs⟩ := inB_get hl h1
    rw [h1, hs] at h
    simp only [Bool.not_true, cond_false] at h
    cases h2 : decide ((op.args.length : Int) = s.operands.length) with
    | false => rw [h2] at h; simp at h
    | true =>
      rw [h2] at h
      simp only [Bool.not_true, cond_false] at h
      refine ⟨hge, s, hs, h2, fun j o ho => ?_⟩
      cases hsc : suitS m op s with
      | out c =>
        rw [hsc] at h
        have hc : c = 0 := h
        obtain ⟨i, x, hx⟩ : ∃ i x, c = suitAt m op.args i x ∧ ¬ suitAt m op.args i x = 0 := by
          have : ∀ (l : List Opn) (k : Nat), scan (tst (fun i o => decide (suitAt m op.args i o = 0)) (fun i _ => i + 1) fun i o => suitAt m op.args i o) k l = .out c → ∃ i x, c = suitAt m op.args i x ∧ ¬ suitAt m op.args i x = 0 := by
            intro l
            induction l with
            | nil => intro k h; simp [scan] at h
            | cons y l ih =>
              intro k h
              simp only [scan, tst] at h
              by_cases hq : suitAt m op.args k y = 0
              · rw [decide_eq_true hq] at h; exact ih (k + 1) (by simpa using h)
              · rw [decide_eq_false hq] at h
                simp at h
                exact ⟨k, y, h.symm, hq⟩
          exact this _ _ hsc
        exact (hx.2 (hx.1 ▸ hc)).elim
      | go r =>
        have := scan_len _ 0 r hsc j o ho
        simpa using this
set_option maxHeartbeats 2000000 in
theorem r_VarsM (C : Ctx) (hO : C.T 36 = some s_COp) (hK : C.T 89 = some s_Mask) : Runs C ir34 s_VarsMv := R_VarsMv fun N hN m op pc hl hc => by
  obtain ⟨t1, t2, t3, t4⟩ := hc
  have eO := @e_COp m op ⟨t1, fun h => (t2 h).1, t3⟩
  simp only [Mc.d, Mo.d] at eO
  have eK := @e_Mask m.address
  unfold varsD
  cases h0 : decide (cop m op = 0)
  · have hv : vcode m pc (cop m op) = cop m op := by simp only [vcode, h0, cond_false]
    rw [hv, if_neg (by simpa using h0)]
    simp -dsimp only [runE, run_eq, ir34, Mc.d, Mo.d, hO, eO, h0, EVs, ↓EVd, ↓reduceIte, zA, zB, zC, zD, zE, zF, reduceBEq, reduceCtorEq, zG, zH, zI, zJ, zK, dcells, okc]
  have h0' : cop m op = 0 := by simpa using h0
  have hm0 : decide (chkM m = 0) = true := by
    cases hh : decide (chkM m = 0) with
    | true => rfl
    | false => simp only [cop, hh, cond_false] at h0'; rw [h0'] at hh; simp at hh
  obtain ⟨⟨f1, f2⟩, ha, hwd⟩ := t2 (by simpa using hm0)
  simp only [cop, hm0, cond_true] at h0'
  obtain ⟨hge, s, hs, hlen, hsu⟩ := suits_ok (by omega) h0'
  have hmask : ∀ {x : Int}, decide (mskI m.address < x) = !decide (x < p2 m.address.toNat) := by
    intro x
    have : mskI m.address = p2 m.address.toNat - 1 := by
      unfold mskI; rw [if_pos (inB_iff.2 (by omega))]; rfl
    rw [this]
    by_cases hx : x < p2 m.address.toNat
    · rw [decide_eq_true hx, decide_eq_false (by omega)]; rfl
    · rw [decide_eq_false hx, decide_eq_true (by omega)]; rfl
  cases h3 : decide (pc < p2 m.address.toNat)
  · have hv : vcode m pc (cop m op) = 24 := by simp only [vcode, h0, h3, cond_true, cond_false]
    rw [hv, if_neg (by omega)]
    simp -dsimp only [runE, run_eq, ir34, Mc.d, Mo.d, hO, eO, h0, hK, eK, hmask, h3, EVs, ↓EVd, ↓reduceIte, zA, zB, zC, zD, zE, zF, reduceBEq, reduceCtorEq, zG, zH, zI, zJ, zK, dcells, okc]
  have hv : vcode m pc (cop m op) = 0 := by simp only [vcode, h0, h3, cond_true]
  have hL : varsL m op pc = (s.operands.foldl (vStep m op pc) (0, [])).2 ++ [⟨strK [112, 99], m.address, pc⟩] := by simp only [varsL, hs]
  rw [hv, if_pos rfl, hL]
  obtain ⟨f3, f4⟩ := f2 s (List.mem_of_getElem? hs)
  have hml := maxLen_ge
  simp -dsimp only [runE, run_eq, ir34, Mc.d, Mo.d, Ins.d, hO, eO, h0, hK, eK, hmask, h3, hge, hs, EVs, ↓EVd, ↓reduceIte, zA, zB, zC, zD, zE, zF, reduceBEq, reduceCtorEq, zG, zH, zI, zJ, zK, dcells, okc]
  generalize hI : iter _ _ _ _ = I
  revert I
  refine iter_all s.operands (fun j a => ⟨[(2, .v (.int .u64 pc)), (3, .ptr 0 0), (4, .ptr 1 0), (9, .v (.int .u64 (mskI m.address))), (10, .own 2 a.2.length), (32, .lst false (s.operands.map Opn.d)), (33, .v (.int .i64 s.operands.length)), (34, .v (.int .i64 j))], [(2, .row 3 (a.2.map Bn.d)), (1, .box op.d), (0, .box m.d)], 3⟩) (vStep m op pc) (fun j a => a.1 = j ∧ a.2.length ≤ j) (0, []) (by omega) hN ?_ ⟨rfl, Nat.le_refl _⟩ ?_ ?_
  · simp -dsimp only [Mc.d, Mo.d, Ins.d, EVs, ↓EVd, ↓reduceIte, zA, zB, zC, zD, zE, zF, reduceBEq, reduceCtorEq, zG, zH, zI, zJ, zK, dcells, okc]
  · rintro j ⟨a, l⟩ o hj hjw ho ⟨ha1, ha2⟩
    simp only at ha1 ha2
    subst ha1
    have hil := (List.getElem?_eq_some_iff.1 ho).1
    obtain ⟨n, hn⟩ := args_at hlen ho
    have hb' : decide ((l.length + 1) * 32 ≤ 140737488355328) = true := decide_eq_true (by omega)
    obtain ⟨b1, b2⟩ := @bits_m m ha hwd pc n t4
    refine ⟨?_, rfl, ?_⟩
    · by_cases hk : o.kind = 1
      · have hk' : decide (o.kind = 1) = true := decide_eq_true hk
        have hst : vStep m op pc (a, l) o = (a + 1, l) := by simp only [vStep, if_pos hk]
        rw [hst]
        simp -dsimp only [lp34x0, Mc.d, Mo.d, Ins.d, Opn.d, iD, hj, hjw, ho, hn, hk', EVs, ↓EVd, ↓reduceIte, zA, zB, zC, zD, zE, zF, reduceBEq, reduceCtorEq, zG, zH, zI, zJ, zK, dcells, okc]
      · have hk' : decide (o.kind = 1) = false := decide_eq_false hk
        by_cases h4 : o.kind = 4
        · have h4' : decide (o.kind = 4) = true := decide_eq_true h4
          have hst : vStep m op pc (a, l) o = (a + 1, l ++ [⟨o.name, m.address, (pc + m.word * (n + 1)) % p2 m.address.toNat⟩]) := by simp only [vStep, if_neg hk, vB, vN, if_pos h4, hn, Option.getD_some]
          rw [hst]
          simp -dsimp only [lp34x0, Mc.d, Mo.d, Ins.d, Opn.d, iD, hj, hjw, ho, hn, hk', h4', foldU, b1, layd, hb', Bn.d, List.length_append, List.map_append, Nat.reduceMul, EVs, ↓EVd, ↓reduceIte, zA, zB, zC, zD, zE, zF, reduceBEq, reduceCtorEq, zG, zH, zI, zJ, zK, dcells, okc]
        · have h4' : decide (o.kind = 4) = false := decide_eq_false h4
          have hst : vStep m op pc (a, l) o = (a + 1, l ++ [⟨o.name, m.address, n % p2 m.address.toNat⟩]) := by simp only [vStep, if_neg hk, vB, vN, if_neg h4, hn, Option.getD_some]
          rw [hst]
          simp -dsimp only [lp34x0, Mc.d, Mo.d, Ins.d, Opn.d, iD, hj, hjw, ho, hn, hk', h4', foldU, b2, layd, hb', Bn.d, List.length_append, List.map_append, Nat.reduceMul, EVs, ↓EVd, ↓reduceIte, zA, zB, zC, zD, zE, zF, reduceBEq, reduceCtorEq, zG, zH, zI, zJ, zK, dcells, okc]
    · unfold vStep
      simp only
      split
      · omega
      · simp only [List.length_append, List.length_singleton]; omega
  · rintro ⟨ha1, ha2⟩
    have hb' : decide (((s.operands.foldl (vStep m op pc) (0, [])).2.length + 1) * 32 ≤ 140737488355328) = true := decide_eq_true (by omega)
    simp -dsimp only [lp34x0, Mc.d, Mo.d, Ins.d, layd, strK_d, hb', Bn.d, List.length_append, List.map_append, Nat.reduceMul, EVs, ↓EVd, ↓reduceIte, zA, zB, zC, zD, zE, zF, reduceBEq, reduceCtorEq, zG, zH, zI, zJ, zK, dcells, okc]
end Go.Proofs.Dv
set_option linter.unusedVariables false
set_option linter.unusedSimpArgs false
set_option maxRecDepth 100000
namespace Go.Proofs.Dv
open Go.RowKit
open Nat renaming reduceEqDiff → zA, reduceAdd → zB, reduceSub → zC, reduceLeDiff → zD, reduceLT → zE, reduceMul → zF
open Int renaming reduceToNat → zG, reduceLE → zH, reduceLT → zI
open List renaming set_cons_zero → zJ, set_cons_succ → zK
end Go.Proofs.Dv
set_option linter.unusedVariables false
set_option linter.unusedSimpArgs false
set_option maxRecDepth 100000
namespace Go.Proofs.Dv
open Go.RowKit
open Nat renaming reduceEqDiff → zA, reduceAdd → zB, reduceSub → zC, reduceLeDiff → zD, reduceLT → zE, reduceMul → zF
open Int renaming reduceToNat → zG, reduceLE → zH, reduceLT → zI
open List renaming set_cons_zero → zJ, set_cons_succ → zK
end Go.Proofs.Dv
set_option linter.unusedVariables false
set_option linter.unusedSimpArgs false
set_option maxRecDepth 100000
namespace Go.Proofs.Dv
open Go.RowKit
open Nat renaming reduceEqDiff → zA, reduceAdd → zB, reduceSub → zC, reduceLeDiff → zD, reduceLT → zE, reduceMul → zF
open Int renaming reduceToNat → zG, reduceLE → zH, reduceLT → zI
open List renaming set_cons_zero → zJ, set_cons_succ → zK
theorem field_le : ∀ (ps : List Pc) (a : Int), 0 ≤ a → a + 32 * ps.length ≤ 1000000 → (∀ p ∈ ps, PO 32 p) → a ≤ ps.foldl (fun n p => IntKind.i64.wrap (n + p.len)) a ∧ ps.foldl (fun n p => IntKind.i64.wrap (n + p.len)) a ≤ a + 32 * ps.length
  | [], a, _, _, _ => by simp
  | p :: ps, a, h0, h1, hp => by
    obtain ⟨q1, q2, _, _⟩ := hp p List.mem_cons_self
    simp only [List.length_cons] at h1 ⊢
    rw [List.foldl_cons, wr _ (by omega) (by omega)]
    have := field_le ps (a + p.len) (by omega) (by omega) fun q hq => hp q (List.mem_cons_of_mem _ hq)
    omega
theorem chk_fine {m : Mc} (h : chkR m = 0) : Fine m ∧ (m.address = 16 ∨ m.address = 32) ∧ (1 ≤ m.word ∧ m.word ≤ 4) := by
  unfold chkR at h
  cases hs : smallOK m with
  | false => rw [hs] at h; simp at h
  | true =>
    rw [hs] at h
    simp only [Bool.not_true, cond_false] at h
    cases hh : headR m && allI (insAt m) 0 m.instrs with
    | false => rw [hh] at h; simp at h
    | true =>
      simp only [headR, Bool.and_eq_true, Bool.or_eq_true, decide_eq_true_eq] at hh
      obtain ⟨⟨_, hw, ha, _, _, _⟩, hins⟩ := hh
      have hW8 := W8_eq hw
      have hw' := inB_iff.1 hw
      have hW : W8 m ≤ 32 := by omega
      simp only [smallOK, Bool.and_eq_true, List.all_eq_true] at hs
      obtain ⟨⟨⟨⟨_, z2⟩, _⟩, z4⟩, _, z6⟩ := hs
      have z2 := fewB_le z2
      have z4 := fewB_le z4
      refine ⟨⟨by omega, fun s hsm => ?_⟩, ha, hw'⟩
      have hz := z6 s hsm
      simp only [smI, Bool.and_eq_true, List.all_eq_true] at hz
      obtain ⟨⟨a1, _⟩, a3⟩ := hz
      have a1 := fewB_le a1
      refine ⟨by omega, fun o ho => ?_⟩
      obtain ⟨j, hj⟩ := List.mem_iff_getElem?.1 hsm
      have h1 := allI_get _ _ hins j s hj
      simp only [insAt, insR, Bool.and_eq_true] at h1
      have hops := h1.1.2.2.2.1
      obtain ⟨k, hk⟩ := List.mem_iff_getElem?.1 ho
      have hkl := (List.getElem?_eq_some_iff.1 hk).1
      have h2 := ops_get hops hk
      simp only [opR, opHead, Bool.and_eq_true] at h2
      have hpo : ∀ p ∈ o.pieces, PO 32 p := fun p hp => by
        obtain ⟨b1, b2, b3, b4⟩ := opsR_pcs hW hops o ho p hp
        exact ⟨b1, by omega, b3, by omega⟩
      have hpl := fewB_le (a3 o ho)
      have hfl : fieldOf o.pieces ≤ 128 := by
        have := (field_le o.pieces 0 (by omega) (by omega) hpo).2
        show o.pieces.foldl (fun n p => IntKind.i64.wrap (n + p.len)) 0 ≤ 128
        omega
      have h3 := h2.2.2
      unfold opKind at h3
      constructor
      · intro hk1
        simp only [hk1, if_true, Bool.and_eq_true] at h3
        obtain ⟨⟨b1, _⟩, b2⟩ := h3
        obtain ⟨q1, b, q2⟩ := inB_get (by omega) b1
        refine ⟨⟨b, by unfold atI; rw [if_pos (by simpa using q1), q2]⟩, ?_⟩
        split at b2
        · omega
        · simp only [Bool.and_eq_true] at b2
          have := inB_iff.1 b2.1.1
          rw [wr _ (by omega) (by omega)] at this
          omega
      · intro hk1
        simp only [hk1, if_false] at h3
        split at h3
        · simp only [Bool.and_eq_true, decide_eq_true_eq] at h3
          obtain ⟨⟨⟨_, b2⟩, b3⟩, b4⟩ := h3
          have b2 := inB_iff.1 b2
          rw [wr _ (by omega) (by omega)] at b4
          refine ⟨by omega, by omega, by omega, by omega⟩
        · simp at h3
end Go.Proofs.Dv
set_option maxRecDepth 100000
namespace Go.Proofs.Dv
def bs (l : List UInt8) : ByteArray := ⟨⟨l⟩⟩
def z0 : T := .mk 0 0 0 ⟨#[]⟩ 0 []
def tV (w : Int) (n : List UInt8) : T := .mk 2 w 0 (bs n) 0 []
def tN (k w : Int) (s : List T) : T := .mk k w 0 ⟨#[]⟩ 0 s
def gm0 : Mc := ⟨bs [114, 105, 115, 99], 4, 32, [⟨bs [114, 48], 32, (-1), 0⟩, ⟨bs [114, 49], 32, (-1), 0⟩, ⟨bs [114, 50], 32, (-1), 0⟩, ⟨bs [114, 51], 32, (-1), 0⟩, ⟨bs [114, 52], 32, (-1), 0⟩, ⟨bs [114, 53], 32, (-1), 0⟩, ⟨bs [114, 54], 32, (-1), 0⟩, ⟨bs [114, 55], 32, (-1), 0⟩, ⟨bs [114, 56], 32, (-1), 0⟩, ⟨bs [114, 57], 32, (-1), 0⟩, ⟨bs [114, 49, 48], 32, (-1), 0⟩, ⟨bs [114, 49, 49], 32, (-1), 0⟩, ⟨bs [114, 49, 50], 32, (-1), 0⟩, ⟨bs [114, 49, 51], 32, (-1), 0⟩, ⟨bs [115, 112], 32, (-1), 0⟩, ⟨bs [108, 114], 32, (-1), 0⟩], [⟨bs [103, 112, 114], [0, 1, 2, 3, 4, 5, 6, 7, 8, 9, 10, 11, 12, 13, 14, 15]⟩], [⟨bs [97, 108, 117], 1⟩, ⟨bs [109, 101, 109], 1⟩, ⟨bs [109, 117, 108], 1⟩], [
  ⟨bs [97, 100, 100], 4227858432, 0, [⟨bs [100], 1, 0, 0, [⟨22, 4⟩], -1⟩, ⟨bs [97], 1, 0, 0, [⟨18, 4⟩], -1⟩, ⟨bs [98], 1, 0, 0, [⟨14, 4⟩], -1⟩], [⟨1, 0, 0, z0, (tN 5 32 [(tV 32 [97]), (tV 32 [98])]), z0⟩], 0, 1, 1, 0⟩,
  ⟨bs [115, 117, 98], 4227858432, 67108864, [⟨bs [100], 1, 0, 0, [⟨22, 4⟩], -1⟩, ⟨bs [97], 1, 0, 0, [⟨18, 4⟩], -1⟩, ⟨bs [98], 1, 0, 0, [⟨14, 4⟩], -1⟩], [⟨1, 0, 0, z0, (tN 6 32 [(tV 32 [97]), (tV 32 [98])]), z0⟩], 0, 1, 1, 0⟩,
  ⟨bs [97, 110, 100], 4227858432, 134217728, [⟨bs [100], 1, 0, 0, [⟨22, 4⟩], -1⟩, ⟨bs [97], 1, 0, 0, [⟨18, 4⟩], -1⟩, ⟨bs [98], 1, 0, 0, [⟨14, 4⟩], -1⟩], [⟨1, 0, 0, z0, (tN 8 32 [(tV 32 [97]), (tV 32 [98])]), z0⟩], 0, 1, 1, 0⟩,
  ⟨bs [111, 114], 4227858432, 201326592, [⟨bs [100], 1, 0, 0, [⟨22, 4⟩], -1⟩, ⟨bs [97], 1, 0, 0, [⟨18, 4⟩], -1⟩, ⟨bs [98], 1, 0, 0, [⟨14, 4⟩], -1⟩], [⟨1, 0, 0, z0, (tN 9 32 [(tV 32 [97]), (tV 32 [98])]), z0⟩], 0, 1, 1, 0⟩,
  ⟨bs [120, 111, 114], 4227858432, 268435456, [⟨bs [100], 1, 0, 0, [⟨22, 4⟩], -1⟩, ⟨bs [97], 1, 0, 0, [⟨18, 4⟩], -1⟩, ⟨bs [98], 1, 0, 0, [⟨14, 4⟩], -1⟩], [⟨1, 0, 0, z0, (tN 10 32 [(tV 32 [97]), (tV 32 [98])]), z0⟩], 0, 1, 1, 0⟩,
  ⟨bs [115, 104, 108], 4227858432, 335544320, [⟨bs [100], 1, 0, 0, [⟨22, 4⟩], -1⟩, ⟨bs [97], 1, 0, 0, [⟨18, 4⟩], -1⟩, ⟨bs [98], 1, 0, 0, [⟨14, 4⟩], -1⟩], [⟨1, 0, 0, z0, (tN 11 32 [(tV 32 [97]), (tV 32 [98])]), z0⟩], 0, 1, 1, 0⟩,
  ⟨bs [115, 104, 114], 4227858432, 402653184, [⟨bs [100], 1, 0, 0, [⟨22, 4⟩], -1⟩, ⟨bs [97], 1, 0, 0, [⟨18, 4⟩], -1⟩, ⟨bs [98], 1, 0, 0, [⟨14, 4⟩], -1⟩], [⟨1, 0, 0, z0, (tN 12 32 [(tV 32 [97]), (tV 32 [98])]), z0⟩], 0, 1, 1, 0⟩,
  ⟨bs [115, 97, 114], 4227858432, 469762048, [⟨bs [100], 1, 0, 0, [⟨22, 4⟩], -1⟩, ⟨bs [97], 1, 0, 0, [⟨18, 4⟩], -1⟩, ⟨bs [98], 1, 0, 0, [⟨14, 4⟩], -1⟩], [⟨1, 0, 0, z0, (tN 13 32 [(tV 32 [97]), (tV 32 [98])]), z0⟩], 0, 1, 1, 0⟩,
  ⟨bs [109, 117, 108], 4227858432, 536870912, [⟨bs [100], 1, 0, 0, [⟨22, 4⟩], -1⟩, ⟨bs [97], 1, 0, 0, [⟨18, 4⟩], -1⟩, ⟨bs [98], 1, 0, 0, [⟨14, 4⟩], -1⟩], [⟨1, 0, 0, z0, (tN 7 32 [(tV 32 [97]), (tV 32 [98])]), z0⟩], 2, 1, 4, 0⟩,
  ⟨bs [117, 100, 105, 118], 4227858432, 603979776, [⟨bs [100], 1, 0, 0, [⟨22, 4⟩], -1⟩, ⟨bs [97], 1, 0, 0, [⟨18, 4⟩], -1⟩, ⟨bs [98], 1, 0, 0, [⟨14, 4⟩], -1⟩], [⟨1, 0, 0, z0, (tN 14 32 [(tV 32 [97]), (tV 32 [98])]), z0⟩], 2, 8, 8, 0⟩,
  ⟨bs [117, 114, 101, 109], 4227858432, 671088640, [⟨bs [100], 1, 0, 0, [⟨22, 4⟩], -1⟩, ⟨bs [97], 1, 0, 0, [⟨18, 4⟩], -1⟩, ⟨bs [98], 1, 0, 0, [⟨14, 4⟩], -1⟩], [⟨1, 0, 0, z0, (tN 15 32 [(tV 32 [97]), (tV 32 [98])]), z0⟩], 2, 8, 8, 0⟩,
  ⟨bs [97, 100, 100, 105], 4227858432, 738197504, [⟨bs [100], 1, 0, 0, [⟨22, 4⟩], -1⟩, ⟨bs [97], 1, 0, 0, [⟨18, 4⟩], -1⟩, ⟨bs [110], 2, 0, 0, [⟨0, 16⟩], -1⟩], [⟨1, 0, 0, z0, (tN 5 32 [(tV 32 [97]), (tV 32 [110])]), z0⟩], 0, 1, 1, 0⟩,
  ⟨bs [97, 110, 100, 105], 4227858432, 805306368, [⟨bs [100], 1, 0, 0, [⟨22, 4⟩], -1⟩, ⟨bs [97], 1, 0, 0, [⟨18, 4⟩], -1⟩, ⟨bs [110], 3, 0, 0, [⟨0, 16⟩], -1⟩], [⟨1, 0, 0, z0, (tN 8 32 [(tV 32 [97]), (tV 32 [110])]), z0⟩], 0, 1, 1, 0⟩,
  ⟨bs [111, 114, 105], 4227858432, 872415232, [⟨bs [100], 1, 0, 0, [⟨22, 4⟩], -1⟩, ⟨bs [97], 1, 0, 0, [⟨18, 4⟩], -1⟩, ⟨bs [110], 3, 0, 0, [⟨0, 16⟩], -1⟩], [⟨1, 0, 0, z0, (tN 9 32 [(tV 32 [97]), (tV 32 [110])]), z0⟩], 0, 1, 1, 0⟩,
  ⟨bs [120, 111, 114, 105], 4227858432, 939524096, [⟨bs [100], 1, 0, 0, [⟨22, 4⟩], -1⟩, ⟨bs [97], 1, 0, 0, [⟨18, 4⟩], -1⟩, ⟨bs [110], 3, 0, 0, [⟨0, 16⟩], -1⟩], [⟨1, 0, 0, z0, (tN 10 32 [(tV 32 [97]), (tV 32 [110])]), z0⟩], 0, 1, 1, 0⟩,
  ⟨bs [115, 104, 108, 105], 4227858432, 1006632960, [⟨bs [100], 1, 0, 0, [⟨22, 4⟩], -1⟩, ⟨bs [97], 1, 0, 0, [⟨18, 4⟩], -1⟩, ⟨bs [110], 3, 0, 0, [⟨0, 5⟩], -1⟩], [⟨1, 0, 0, z0, (tN 11 32 [(tV 32 [97]), (tV 32 [110])]), z0⟩], 0, 1, 1, 0⟩,
  ⟨bs [115, 104, 114, 105], 4227858432, 1073741824, [⟨bs [100], 1, 0, 0, [⟨22, 4⟩], -1⟩, ⟨bs [97], 1, 0, 0, [⟨18, 4⟩], -1⟩, ⟨bs [110], 3, 0, 0, [⟨0, 5⟩], -1⟩], [⟨1, 0, 0, z0, (tN 12 32 [(tV 32 [97]), (tV 32 [110])]), z0⟩], 0, 1, 1, 0⟩,
  ⟨bs [115, 97, 114, 105], 4227858432, 1140850688, [⟨bs [100], 1, 0, 0, [⟨22, 4⟩], -1⟩, ⟨bs [97], 1, 0, 0, [⟨18, 4⟩], -1⟩, ⟨bs [110], 3, 0, 0, [⟨0, 5⟩], -1⟩], [⟨1, 0, 0, z0, (tN 13 32 [(tV 32 [97]), (tV 32 [110])]), z0⟩], 0, 1, 1, 0⟩,
  ⟨bs [108, 117, 105], 4227858432, 1207959552, [⟨bs [100], 1, 0, 0, [⟨22, 4⟩], -1⟩, ⟨bs [110], 3, 0, 0, [⟨0, 16⟩], -1⟩], [⟨1, 0, 0, z0, (tN 11 32 [(tV 32 [110]), (.mk 1 32 16 ⟨#[]⟩ 0 [])]), z0⟩], 0, 1, 1, 0⟩,
  ⟨bs [108, 119], 4227858432, 1275068416, [⟨bs [100], 1, 0, 0, [⟨22, 4⟩], -1⟩, ⟨bs [97], 1, 0, 0, [⟨18, 4⟩], -1⟩, ⟨bs [110], 2, 0, 0, [⟨0, 16⟩], -1⟩], [⟨1, 0, 0, z0, (tN 24 32 [(tN 5 32 [(tV 32 [97]), (tV 32 [110])])]), z0⟩], 1, 1, 2, 0⟩,
  ⟨bs [108, 98], 4227858432, 1342177280, [⟨bs [100], 1, 0, 0, [⟨22, 4⟩], -1⟩, ⟨bs [97], 1, 0, 0, [⟨18, 4⟩], -1⟩, ⟨bs [110], 2, 0, 0, [⟨0, 16⟩], -1⟩], [⟨1, 0, 0, z0, (tN 23 32 [(tN 24 8 [(tN 5 32 [(tV 32 [97]), (tV 32 [110])])])]), z0⟩], 1, 1, 2, 0⟩,
  ⟨bs [108, 98, 117], 4227858432, 1409286144, [⟨bs [100], 1, 0, 0, [⟨22, 4⟩], -1⟩, ⟨bs [97], 1, 0, 0, [⟨18, 4⟩], -1⟩, ⟨bs [110], 2, 0, 0, [⟨0, 16⟩], -1⟩], [⟨1, 0, 0, z0, (tN 22 32 [(tN 24 8 [(tN 5 32 [(tV 32 [97]), (tV 32 [110])])])]), z0⟩], 1, 1, 2, 0⟩,
  ⟨bs [108, 104, 117], 4227858432, 1476395008, [⟨bs [100], 1, 0, 0, [⟨22, 4⟩], -1⟩, ⟨bs [97], 1, 0, 0, [⟨18, 4⟩], -1⟩, ⟨bs [110], 2, 0, 0, [⟨0, 16⟩], -1⟩], [⟨1, 0, 0, z0, (tN 22 32 [(tN 24 16 [(tN 5 32 [(tV 32 [97]), (tV 32 [110])])])]), z0⟩], 1, 1, 2, 0⟩,
  ⟨bs [115, 119], 4227858432, 1543503872, [⟨bs [100], 1, 0, 0, [⟨22, 4⟩], -1⟩, ⟨bs [97], 1, 0, 0, [⟨18, 4⟩], -1⟩, ⟨bs [110], 2, 0, 0, [⟨0, 16⟩], -1⟩], [⟨2, 0, 0, (tN 5 32 [(tV 32 [97]), (tV 32 [110])]), (tV 32 [100]), z0⟩], 1, 1, 1, 0⟩,
  ⟨bs [115, 104], 4227858432, 1610612736, [⟨bs [100], 1, 0, 0, [⟨22, 4⟩], -1⟩, ⟨bs [97], 1, 0, 0, [⟨18, 4⟩], -1⟩, ⟨bs [110], 2, 0, 0, [⟨0, 16⟩], -1⟩], [⟨2, 0, 0, (tN 5 32 [(tV 32 [97]), (tV 32 [110])]), (tN 21 16 [(tV 32 [100])]), z0⟩], 1, 1, 1, 0⟩,
  ⟨bs [115, 98], 4227858432, 1677721600, [⟨bs [100], 1, 0, 0, [⟨22, 4⟩], -1⟩, ⟨bs [97], 1, 0, 0, [⟨18, 4⟩], -1⟩, ⟨bs [110], 2, 0, 0, [⟨0, 16⟩], -1⟩], [⟨2, 0, 0, (tN 5 32 [(tV 32 [97]), (tV 32 [110])]), (tN 21 8 [(tV 32 [100])]), z0⟩], 1, 1, 1, 0⟩,
  ⟨bs [101, 113], 4227858432, 1744830464, [⟨bs [100], 1, 0, 0, [⟨22, 4⟩], -1⟩, ⟨bs [97], 1, 0, 0, [⟨18, 4⟩], -1⟩, ⟨bs [98], 1, 0, 0, [⟨14, 4⟩], -1⟩], [⟨1, 0, 0, z0, (tN 22 32 [(tN 16 1 [(tV 32 [97]), (tV 32 [98])])]), z0⟩], 0, 1, 1, 0⟩,
  ⟨bs [117, 108, 116], 4227858432, 1811939328, [⟨bs [100], 1, 0, 0, [⟨22, 4⟩], -1⟩, ⟨bs [97], 1, 0, 0, [⟨18, 4⟩], -1⟩, ⟨bs [98], 1, 0, 0, [⟨14, 4⟩], -1⟩], [⟨1, 0, 0, z0, (tN 22 32 [(tN 17 1 [(tV 32 [97]), (tV 32 [98])])]), z0⟩], 0, 1, 1, 0⟩,
  ⟨bs [115, 108, 116], 4227858432, 1879048192, [⟨bs [100], 1, 0, 0, [⟨22, 4⟩], -1⟩, ⟨bs [97], 1, 0, 0, [⟨18, 4⟩], -1⟩, ⟨bs [98], 1, 0, 0, [⟨14, 4⟩], -1⟩], [⟨1, 0, 0, z0, (tN 22 32 [(tN 18 1 [(tV 32 [97]), (tV 32 [98])])]), z0⟩], 0, 1, 1, 0⟩,
  ⟨bs [98, 101, 113], 4227858432, 1946157056, [⟨bs [97], 1, 0, 0, [⟨18, 4⟩], -1⟩, ⟨bs [98], 1, 0, 0, [⟨14, 4⟩], -1⟩, ⟨bs [116, 111], 4, 0, 0, [⟨0, 14⟩], -1⟩], [⟨3, 0, 0, z0, (tV 32 [116, 111]), (tN 16 1 [(tV 32 [97]), (tV 32 [98])])⟩], 0, 1, 1, 1⟩,
  ⟨bs [98, 110, 101], 4227858432, 2013265920, [⟨bs [97], 1, 0, 0, [⟨18, 4⟩], -1⟩, ⟨bs [98], 1, 0, 0, [⟨14, 4⟩], -1⟩, ⟨bs [116, 111], 4, 0, 0, [⟨0, 14⟩], -1⟩], [⟨3, 0, 0, z0, (tV 32 [116, 111]), (tN 3 1 [(tN 16 1 [(tV 32 [97]), (tV 32 [98])])])⟩], 0, 1, 1, 1⟩,
  ⟨bs [98, 108, 116], 4227858432, 2080374784, [⟨bs [97], 1, 0, 0, [⟨18, 4⟩], -1⟩, ⟨bs [98], 1, 0, 0, [⟨14, 4⟩], -1⟩, ⟨bs [116, 111], 4, 0, 0, [⟨0, 14⟩], -1⟩], [⟨3, 0, 0, z0, (tV 32 [116, 111]), (tN 18 1 [(tV 32 [97]), (tV 32 [98])])⟩], 0, 1, 1, 1⟩,
  ⟨bs [106, 117, 109, 112], 4227858432, 2147483648, [⟨bs [116, 111], 4, 0, 0, [⟨0, 26⟩], -1⟩], [⟨3, 0, 0, z0, (tV 32 [116, 111]), z0⟩], 0, 1, 1, 1⟩,
  ⟨bs [99, 97, 108, 108], 4227858432, 2214592512, [⟨bs [116, 111], 4, 0, 0, [⟨0, 26⟩], -1⟩], [⟨1, (-1), 15, z0, (tN 5 32 [(tV 32 [112, 99]), (.mk 1 32 8 ⟨#[]⟩ 0 [])]), z0⟩, ⟨3, 0, 0, z0, (tV 32 [116, 111]), z0⟩], 0, 1, 1, 1⟩,
  ⟨bs [106, 114], 4227858432, 2281701376, [⟨bs [97], 1, 0, 0, [⟨18, 4⟩], -1⟩], [⟨3, 0, 0, z0, (tV 32 [97]), z0⟩], 0, 1, 1, 1⟩,
  ⟨bs [116, 114, 97, 112], 4227858432, 2348810240, [⟨bs [110], 3, 0, 0, [⟨0, 16⟩], -1⟩], [⟨4, 0, 0, z0, (tV 32 [110]), z0⟩], 0, 1, 1, 0⟩,
  ⟨bs [116, 101, 108, 108], 4227858432, 2415919104, [⟨bs [97], 1, 0, 0, [⟨18, 4⟩], -1⟩], [⟨4, 0, 0, z0, (tN 20 33 [(.mk 1 1 1 ⟨#[]⟩ 0 []), (tV 32 [97])]), z0⟩], 0, 1, 1, 0⟩,
  ⟨bs [104, 97, 108, 116], 4227858432, 2483027968, [⟨bs [97], 1, 0, 0, [⟨18, 4⟩], -1⟩], [⟨4, 0, 0, z0, (tV 32 [97]), z0⟩], 0, 1, 1, 0⟩,
  ⟨bs [110, 111, 112], 4227858432, 2550136832, [], [], 0, 1, 1, 0⟩,
  ⟨bs [108, 105], 4227858432, 2617245696, [⟨bs [100], 1, 0, 0, [⟨22, 4⟩], -1⟩, ⟨bs [110], 2, 0, 0, [⟨0, 16⟩], -1⟩], [⟨1, 0, 0, z0, (tV 32 [110]), z0⟩], 0, 1, 1, 0⟩]⟩
def gm1 : Mc := ⟨bs [102, 108, 97, 103, 115], 2, 16, [⟨bs [97, 120], 16, (-1), 0⟩, ⟨bs [98, 120], 16, (-1), 0⟩, ⟨bs [99, 120], 16, (-1), 0⟩, ⟨bs [100, 120], 16, (-1), 0⟩, ⟨bs [115, 105], 16, (-1), 0⟩, ⟨bs [100, 105], 16, (-1), 0⟩, ⟨bs [98, 112], 16, (-1), 0⟩, ⟨bs [115, 112], 16, (-1), 0⟩, ⟨bs [97, 108], 8, 0, 0⟩, ⟨bs [98, 108], 8, 1, 0⟩, ⟨bs [99, 108], 8, 2, 0⟩, ⟨bs [100, 108], 8, 3, 0⟩, ⟨bs [97, 104], 8, 0, 8⟩, ⟨bs [98, 104], 8, 1, 8⟩, ⟨bs [99, 104], 8, 2, 8⟩, ⟨bs [100, 104], 8, 3, 8⟩, ⟨bs [122, 102], 1, (-1), 0⟩, ⟨bs [99, 102], 1, (-1), 0⟩, ⟨bs [115, 102], 1, (-1), 0⟩], [⟨bs [119], [0, 1, 2, 3, 4, 5, 6, 7]⟩, ⟨bs [98], [8, 9, 10, 11, 12, 13, 14, 15]⟩], [⟨bs [99, 111, 114, 101], 1⟩], [
  ⟨bs [109, 111, 118], 64512, 0, [⟨bs [100], 1, 0, 0, [⟨7, 3⟩], -1⟩, ⟨bs [115], 1, 0, 0, [⟨4, 3⟩], -1⟩], [⟨1, 0, 0, z0, (tV 16 [115]), z0⟩], 0, 1, 1, 0⟩,
  ⟨bs [109, 111, 118, 105], 64512, 1024, [⟨bs [100], 1, 0, 0, [⟨7, 3⟩], -1⟩, ⟨bs [110], 2, 0, 0, [⟨0, 7⟩], -1⟩], [⟨1, 0, 0, z0, (tV 16 [110]), z0⟩], 0, 1, 1, 0⟩,
  ⟨bs [109, 111, 118, 104], 64512, 2048, [⟨bs [100], 1, 0, 0, [⟨7, 3⟩], -1⟩, ⟨bs [97], 1, 0, 0, [], 0⟩, ⟨bs [110], 2, 0, 0, [⟨0, 7⟩], -1⟩], [⟨1, 0, 0, z0, (tN 9 16 [(tN 11 16 [(tV 16 [110]), (.mk 1 16 9 ⟨#[]⟩ 0 [])]), (tN 8 16 [(tV 16 [97]), (.mk 1 16 511 ⟨#[]⟩ 0 [])])]), z0⟩], 0, 1, 1, 0⟩,
  ⟨bs [97, 100, 100], 64512, 3072, [⟨bs [100], 1, 0, 0, [⟨7, 3⟩], -1⟩, ⟨bs [97], 1, 0, 0, [], 0⟩, ⟨bs [115], 1, 0, 0, [⟨4, 3⟩], -1⟩], [⟨1, 0, 0, z0, (tN 5 16 [(tV 16 [97]), (tV 16 [115])]), z0⟩, ⟨1, (-1), 16, z0, (tN 16 1 [(tN 5 16 [(tV 16 [97]), (tV 16 [115])]), (tN 1 16 [])]), z0⟩, ⟨1, (-1), 17, z0, (tN 17 1 [(tN 5 16 [(tV 16 [97]), (tV 16 [115])]), (tV 16 [97])]), z0⟩, ⟨1, (-1), 18, z0, (tN 18 1 [(tN 5 16 [(tV 16 [97]), (tV 16 [115])]), (tN 1 16 [])]), z0⟩], 0, 1, 1, 0⟩,
  ⟨bs [115, 117, 98], 64512, 4096, [⟨bs [100], 1, 0, 0, [⟨7, 3⟩], -1⟩, ⟨bs [97], 1, 0, 0, [], 0⟩, ⟨bs [115], 1, 0, 0, [⟨4, 3⟩], -1⟩], [⟨1, 0, 0, z0, (tN 6 16 [(tV 16 [97]), (tV 16 [115])]), z0⟩, ⟨1, (-1), 16, z0, (tN 16 1 [(tV 16 [97]), (tV 16 [115])]), z0⟩, ⟨1, (-1), 17, z0, (tN 17 1 [(tV 16 [97]), (tV 16 [115])]), z0⟩, ⟨1, (-1), 18, z0, (tN 18 1 [(tV 16 [97]), (tV 16 [115])]), z0⟩], 0, 1, 1, 0⟩,
  ⟨bs [97, 110, 100], 64512, 5120, [⟨bs [100], 1, 0, 0, [⟨7, 3⟩], -1⟩, ⟨bs [97], 1, 0, 0, [], 0⟩, ⟨bs [115], 1, 0, 0, [⟨4, 3⟩], -1⟩], [⟨1, 0, 0, z0, (tN 8 16 [(tV 16 [97]), (tV 16 [115])]), z0⟩, ⟨1, (-1), 16, z0, (tN 16 1 [(tN 8 16 [(tV 16 [97]), (tV 16 [115])]), (tN 1 16 [])]), z0⟩], 0, 1, 1, 0⟩,
  ⟨bs [111, 114], 64512, 6144, [⟨bs [100], 1, 0, 0, [⟨7, 3⟩], -1⟩, ⟨bs [97], 1, 0, 0, [], 0⟩, ⟨bs [115], 1, 0, 0, [⟨4, 3⟩], -1⟩], [⟨1, 0, 0, z0, (tN 9 16 [(tV 16 [97]), (tV 16 [115])]), z0⟩, ⟨1, (-1), 16, z0, (tN 16 1 [(tN 9 16 [(tV 16 [97]), (tV 16 [115])]), (tN 1 16 [])]), z0⟩], 0, 1, 1, 0⟩,
  ⟨bs [120, 111, 114], 64512, 7168, [⟨bs [100], 1, 0, 0, [⟨7, 3⟩], -1⟩, ⟨bs [97], 1, 0, 0, [], 0⟩, ⟨bs [115], 1, 0, 0, [⟨4, 3⟩], -1⟩], [⟨1, 0, 0, z0, (tN 10 16 [(tV 16 [97]), (tV 16 [115])]), z0⟩, ⟨1, (-1), 16, z0, (tN 16 1 [(tN 10 16 [(tV 16 [97]), (tV 16 [115])]), (tN 1 16 [])]), z0⟩], 0, 1, 1, 0⟩,
  ⟨bs [97, 100, 100, 105], 64512, 8192, [⟨bs [100], 1, 0, 0, [⟨7, 3⟩], -1⟩, ⟨bs [97], 1, 0, 0, [], 0⟩, ⟨bs [110], 2, 0, 0, [⟨0, 7⟩], -1⟩], [⟨1, 0, 0, z0, (tN 5 16 [(tV 16 [97]), (tV 16 [110])]), z0⟩, ⟨1, (-1), 16, z0, (tN 16 1 [(tN 5 16 [(tV 16 [97]), (tV 16 [110])]), (tN 1 16 [])]), z0⟩], 0, 1, 1, 0⟩,
  ⟨bs [115, 104, 108], 64512, 9216, [⟨bs [100], 1, 0, 0, [⟨7, 3⟩], -1⟩, ⟨bs [97], 1, 0, 0, [], 0⟩, ⟨bs [115], 1, 0, 0, [⟨4, 3⟩], -1⟩], [⟨1, 0, 0, z0, (tN 11 16 [(tV 16 [97]), (tV 16 [115])]), z0⟩], 0, 1, 1, 0⟩,
  ⟨bs [115, 104, 114], 64512, 10240, [⟨bs [100], 1, 0, 0, [⟨7, 3⟩], -1⟩, ⟨bs [97], 1, 0, 0, [], 0⟩, ⟨bs [115], 1, 0, 0, [⟨4, 3⟩], -1⟩], [⟨1, 0, 0, z0, (tN 12 16 [(tV 16 [97]), (tV 16 [115])]), z0⟩], 0, 1, 1, 0⟩,
  ⟨bs [115, 97, 114], 64512, 11264, [⟨bs [100], 1, 0, 0, [⟨7, 3⟩], -1⟩, ⟨bs [97], 1, 0, 0, [], 0⟩, ⟨bs [115], 1, 0, 0, [⟨4, 3⟩], -1⟩], [⟨1, 0, 0, z0, (tN 13 16 [(tV 16 [97]), (tV 16 [115])]), z0⟩], 0, 1, 1, 0⟩,
  ⟨bs [115, 104, 108, 105], 64512, 12288, [⟨bs [100], 1, 0, 0, [⟨7, 3⟩], -1⟩, ⟨bs [97], 1, 0, 0, [], 0⟩, ⟨bs [110], 3, 0, 0, [⟨0, 4⟩], -1⟩], [⟨1, 0, 0, z0, (tN 11 16 [(tV 16 [97]), (tV 16 [110])]), z0⟩], 0, 1, 1, 0⟩,
  ⟨bs [115, 104, 114, 105], 64512, 13312, [⟨bs [100], 1, 0, 0, [⟨7, 3⟩], -1⟩, ⟨bs [97], 1, 0, 0, [], 0⟩, ⟨bs [110], 3, 0, 0, [⟨0, 4⟩], -1⟩], [⟨1, 0, 0, z0, (tN 12 16 [(tV 16 [97]), (tV 16 [110])]), z0⟩], 0, 1, 1, 0⟩,
  ⟨bs [110, 101, 103], 64512, 14336, [⟨bs [100], 1, 0, 0, [⟨7, 3⟩], -1⟩, ⟨bs [97], 1, 0, 0, [], 0⟩], [⟨1, 0, 0, z0, (tN 4 16 [(tV 16 [97])]), z0⟩], 0, 1, 1, 0⟩,
  ⟨bs [110, 111, 116], 64512, 15360, [⟨bs [100], 1, 0, 0, [⟨7, 3⟩], -1⟩, ⟨bs [97], 1, 0, 0, [], 0⟩], [⟨1, 0, 0, z0, (tN 3 16 [(tV 16 [97])]), z0⟩], 0, 1, 1, 0⟩,
  ⟨bs [109, 117, 108], 64512, 16384, [⟨bs [100], 1, 0, 0, [⟨7, 3⟩], -1⟩, ⟨bs [97], 1, 0, 0, [], 0⟩, ⟨bs [115], 1, 0, 0, [⟨4, 3⟩], -1⟩], [⟨1, 0, 0, z0, (tN 7 16 [(tV 16 [97]), (tV 16 [115])]), z0⟩], 0, 1, 6, 0⟩,
  ⟨bs [117, 100, 105, 118], 64512, 17408, [⟨bs [100], 1, 0, 0, [⟨7, 3⟩], -1⟩, ⟨bs [97], 1, 0, 0, [], 0⟩, ⟨bs [115], 1, 0, 0, [⟨4, 3⟩], -1⟩], [⟨1, 0, 0, z0, (tN 14 16 [(tV 16 [97]), (tV 16 [115])]), z0⟩], 0, 1, 12, 0⟩,
  ⟨bs [117, 114, 101, 109], 64512, 18432, [⟨bs [100], 1, 0, 0, [⟨7, 3⟩], -1⟩, ⟨bs [97], 1, 0, 0, [], 0⟩, ⟨bs [115], 1, 0, 0, [⟨4, 3⟩], -1⟩], [⟨1, 0, 0, z0, (tN 15 16 [(tV 16 [97]), (tV 16 [115])]), z0⟩], 0, 1, 12, 0⟩,
  ⟨bs [99, 109, 112], 64512, 19456, [⟨bs [100], 1, 0, 0, [⟨7, 3⟩], -1⟩, ⟨bs [115], 1, 0, 0, [⟨4, 3⟩], -1⟩], [⟨1, (-1), 16, z0, (tN 16 1 [(tV 16 [100]), (tV 16 [115])]), z0⟩, ⟨1, (-1), 17, z0, (tN 17 1 [(tV 16 [100]), (tV 16 [115])]), z0⟩, ⟨1, (-1), 18, z0, (tN 18 1 [(tV 16 [100]), (tV 16 [115])]), z0⟩], 0, 1, 1, 0⟩,
  ⟨bs [108, 100], 64512, 20480, [⟨bs [100], 1, 0, 0, [⟨7, 3⟩], -1⟩, ⟨bs [115], 1, 0, 0, [⟨4, 3⟩], -1⟩, ⟨bs [110], 3, 0, 1, [⟨0, 4⟩], -1⟩], [⟨1, 0, 0, z0, (tN 24 16 [(tN 5 16 [(tV 16 [115]), (tV 16 [110])])]), z0⟩], 0, 1, 2, 0⟩,
  ⟨bs [115, 116], 64512, 21504, [⟨bs [100], 1, 0, 0, [⟨7, 3⟩], -1⟩, ⟨bs [115], 1, 0, 0, [⟨4, 3⟩], -1⟩, ⟨bs [110], 3, 0, 1, [⟨0, 4⟩], -1⟩], [⟨2, 0, 0, (tN 5 16 [(tV 16 [115]), (tV 16 [110])]), (tV 16 [100]), z0⟩], 0, 1, 1, 0⟩,
  ⟨bs [108, 100, 98], 64512, 22528, [⟨bs [100], 1, 1, 0, [⟨7, 3⟩], -1⟩, ⟨bs [115], 1, 0, 0, [⟨4, 3⟩], -1⟩, ⟨bs [110], 3, 0, 0, [⟨0, 4⟩], -1⟩], [⟨1, 0, 0, z0, (tN 24 8 [(tN 5 16 [(tV 16 [115]), (tV 16 [110])])]), z0⟩], 0, 1, 2, 0⟩,
  ⟨bs [115, 116, 98], 64512, 23552, [⟨bs [100], 1, 1, 0, [⟨7, 3⟩], -1⟩, ⟨bs [115], 1, 0, 0, [⟨4, 3⟩], -1⟩, ⟨bs [110], 3, 0, 0, [⟨0, 4⟩], -1⟩], [⟨2, 0, 0, (tN 5 16 [(tV 16 [115]), (tV 16 [110])]), (tV 8 [100]), z0⟩], 0, 1, 1, 0⟩,
  ⟨bs [109, 111, 118, 98], 64512, 24576, [⟨bs [100], 1, 1, 0, [⟨7, 3⟩], -1⟩, ⟨bs [115], 1, 1, 0, [⟨4, 3⟩], -1⟩], [⟨1, 0, 0, z0, (tV 8 [115]), z0⟩], 0, 1, 1, 0⟩,
  ⟨bs [97, 100, 100, 98], 64512, 25600, [⟨bs [100], 1, 1, 0, [⟨7, 3⟩], -1⟩, ⟨bs [97], 1, 1, 0, [], 0⟩, ⟨bs [115], 1, 1, 0, [⟨4, 3⟩], -1⟩], [⟨1, 0, 0, z0, (tN 5 8 [(tV 8 [97]), (tV 8 [115])]), z0⟩], 0, 1, 1, 0⟩,
  ⟨bs [122, 101, 120, 116], 64512, 26624, [⟨bs [100], 1, 0, 0, [⟨7, 3⟩], -1⟩, ⟨bs [115], 1, 1, 0, [⟨4, 3⟩], -1⟩], [⟨1, 0, 0, z0, (tN 22 16 [(tV 8 [115])]), z0⟩], 0, 1, 1, 0⟩,
  ⟨bs [115, 101, 120, 116], 64512, 27648, [⟨bs [100], 1, 0, 0, [⟨7, 3⟩], -1⟩, ⟨bs [115], 1, 1, 0, [⟨4, 3⟩], -1⟩], [⟨1, 0, 0, z0, (tN 23 16 [(tV 8 [115])]), z0⟩], 0, 1, 1, 0⟩,
  ⟨bs [115, 101, 116, 122], 64512, 28672, [⟨bs [100], 1, 0, 0, [⟨7, 3⟩], -1⟩], [⟨1, 0, 0, z0, (tN 22 16 [(tV 1 [114, 46, 122, 102])]), z0⟩], 0, 1, 1, 0⟩,
  ⟨bs [115, 101, 116, 99], 64512, 29696, [⟨bs [100], 1, 0, 0, [⟨7, 3⟩], -1⟩], [⟨1, 0, 0, z0, (tN 22 16 [(tV 1 [114, 46, 99, 102])]), z0⟩], 0, 1, 1, 0⟩,
  ⟨bs [115, 101, 116, 115], 64512, 30720, [⟨bs [100], 1, 0, 0, [⟨7, 3⟩], -1⟩], [⟨1, 0, 0, z0, (tN 22 16 [(tV 1 [114, 46, 115, 102])]), z0⟩], 0, 1, 1, 0⟩,
  ⟨bs [106, 122], 64512, 31744, [⟨bs [116, 111], 4, 0, 0, [⟨0, 10⟩], -1⟩], [⟨3, 0, 0, z0, (tV 16 [116, 111]), (tV 1 [114, 46, 122, 102])⟩], 0, 1, 1, 0⟩,
  ⟨bs [106, 99], 64512, 32768, [⟨bs [116, 111], 4, 0, 0, [⟨0, 10⟩], -1⟩], [⟨3, 0, 0, z0, (tV 16 [116, 111]), (tV 1 [114, 46, 99, 102])⟩], 0, 1, 1, 0⟩,
  ⟨bs [106, 115], 64512, 33792, [⟨bs [116, 111], 4, 0, 0, [⟨0, 10⟩], -1⟩], [⟨3, 0, 0, z0, (tV 16 [116, 111]), (tV 1 [114, 46, 115, 102])⟩], 0, 1, 1, 0⟩,
  ⟨bs [106, 110, 122], 64512, 34816, [⟨bs [116, 111], 4, 0, 0, [⟨0, 10⟩], -1⟩], [⟨3, 0, 0, z0, (tV 16 [116, 111]), (tN 3 1 [(tV 1 [114, 46, 122, 102])])⟩], 0, 1, 1, 0⟩,
  ⟨bs [106, 109, 112], 64512, 35840, [⟨bs [116, 111], 4, 0, 0, [⟨0, 10⟩], -1⟩], [⟨3, 0, 0, z0, (tV 16 [116, 111]), z0⟩], 0, 1, 1, 0⟩,
  ⟨bs [106, 114], 64512, 36864, [⟨bs [115], 1, 0, 0, [⟨4, 3⟩], -1⟩], [⟨3, 0, 0, z0, (tV 16 [115]), z0⟩], 0, 1, 1, 0⟩,
  ⟨bs [99, 97, 108, 108], 64512, 37888, [⟨bs [116, 111], 4, 0, 0, [⟨0, 10⟩], -1⟩], [⟨2, 0, 0, (tN 6 16 [(tV 16 [114, 46, 115, 112]), (.mk 1 16 2 ⟨#[]⟩ 0 [])]), (tN 5 16 [(tV 16 [112, 99]), (.mk 1 16 2 ⟨#[]⟩ 0 [])]), z0⟩, ⟨1, (-1), 7, z0, (tN 6 16 [(tV 16 [114, 46, 115, 112]), (.mk 1 16 2 ⟨#[]⟩ 0 [])]), z0⟩, ⟨3, 0, 0, z0, (tV 16 [116, 111]), z0⟩], 0, 1, 1, 0⟩,
  ⟨bs [114, 101, 116], 64512, 38912, [], [⟨1, (-1), 7, z0, (tN 5 16 [(tV 16 [114, 46, 115, 112]), (.mk 1 16 2 ⟨#[]⟩ 0 [])]), z0⟩, ⟨3, 0, 0, z0, (tN 24 16 [(tV 16 [114, 46, 115, 112])]), z0⟩], 0, 1, 2, 0⟩,
  ⟨bs [112, 117, 115, 104], 64512, 39936, [⟨bs [115], 1, 0, 0, [⟨4, 3⟩], -1⟩], [⟨2, 0, 0, (tN 6 16 [(tV 16 [114, 46, 115, 112]), (.mk 1 16 2 ⟨#[]⟩ 0 [])]), (tV 16 [115]), z0⟩, ⟨1, (-1), 7, z0, (tN 6 16 [(tV 16 [114, 46, 115, 112]), (.mk 1 16 2 ⟨#[]⟩ 0 [])]), z0⟩], 0, 1, 1, 0⟩,
  ⟨bs [112, 111, 112], 64512, 40960, [⟨bs [100], 1, 0, 0, [⟨7, 3⟩], -1⟩], [⟨1, 0, 0, z0, (tN 24 16 [(tV 16 [114, 46, 115, 112])]), z0⟩, ⟨1, (-1), 7, z0, (tN 5 16 [(tV 16 [114, 46, 115, 112]), (.mk 1 16 2 ⟨#[]⟩ 0 [])]), z0⟩], 0, 1, 2, 0⟩,
  ⟨bs [116, 114, 97, 112], 64512, 41984, [⟨bs [110], 3, 0, 0, [⟨0, 4⟩], -1⟩], [⟨4, 0, 0, z0, (tV 16 [110]), z0⟩], 0, 1, 1, 0⟩,
  ⟨bs [116, 101, 108, 108], 64512, 43008, [⟨bs [115], 1, 0, 0, [⟨4, 3⟩], -1⟩], [⟨4, 0, 0, z0, (tN 20 17 [(.mk 1 1 1 ⟨#[]⟩ 0 []), (tV 16 [115])]), z0⟩], 0, 1, 1, 0⟩,
  ⟨bs [104, 97, 108, 116], 64512, 44032, [⟨bs [115], 1, 0, 0, [⟨4, 3⟩], -1⟩], [⟨4, 0, 0, z0, (tV 16 [115]), z0⟩], 0, 1, 1, 0⟩,
  ⟨bs [110, 111, 112], 64512, 45056, [], [], 0, 1, 1, 0⟩,
  ⟨bs [101, 113], 64512, 46080, [⟨bs [100], 1, 0, 0, [⟨7, 3⟩], -1⟩, ⟨bs [97], 1, 0, 0, [], 0⟩, ⟨bs [115], 1, 0, 0, [⟨4, 3⟩], -1⟩], [⟨1, 0, 0, z0, (tN 22 16 [(tN 16 1 [(tV 16 [97]), (tV 16 [115])])]), z0⟩], 0, 1, 1, 0⟩,
  ⟨bs [117, 108, 116], 64512, 47104, [⟨bs [100], 1, 0, 0, [⟨7, 3⟩], -1⟩, ⟨bs [97], 1, 0, 0, [], 0⟩, ⟨bs [115], 1, 0, 0, [⟨4, 3⟩], -1⟩], [⟨1, 0, 0, z0, (tN 22 16 [(tN 17 1 [(tV 16 [97]), (tV 16 [115])])]), z0⟩], 0, 1, 1, 0⟩,
  ⟨bs [115, 108, 116], 64512, 48128, [⟨bs [100], 1, 0, 0, [⟨7, 3⟩], -1⟩, ⟨bs [97], 1, 0, 0, [], 0⟩, ⟨bs [115], 1, 0, 0, [⟨4, 3⟩], -1⟩], [⟨1, 0, 0, z0, (tN 22 16 [(tN 18 1 [(tV 16 [97]), (tV 16 [115])])]), z0⟩], 0, 1, 1, 0⟩,
  ⟨bs [98, 114, 110, 122], 64512, 49152, [⟨bs [100], 1, 0, 0, [⟨7, 3⟩], -1⟩, ⟨bs [116, 111], 4, 0, 0, [⟨0, 7⟩], -1⟩], [⟨3, 0, 0, z0, (tV 16 [116, 111]), (tN 3 1 [(tN 16 1 [(tV 16 [100]), (tN 1 16 [])])])⟩], 0, 1, 1, 0⟩]⟩
end Go.Proofs.Dv
set_option linter.unusedVariables false
set_option maxRecDepth 100000
namespace Go.Proofs.Dv
open Go.RowKit
open Nat renaming reduceEqDiff → zA, reduceAdd → zB, reduceSub → zC, reduceLeDiff → zD, reduceLT → zE, reduceMul → zF
open Int renaming reduceToNat → zG, reduceLE → zH, reduceLT → zI
open List renaming set_cons_zero → zJ, set_cons_succ → zK
def gfs : List (Nat × IFun) := [(33, ir33), (96, ir96), (98, ir98), (132, ir132), (133, ir133), (134, ir134), (135, ir135), (136, ir136), (137, ir137), (138, ir138), (139, ir139), (140, ir140), (141, ir141), (143, ir143), (160, ir160), (161, ir161), (162, ir162)]
def gcs : List (Nat × IFun) := [(126, ir126), (127, ir127), (128, ir128), (129, ir129), (142, ir142), (159, ir159)]
def tG (G : Nat → Option (List D)) (I : Nat → List D → Option (List (List D))) (N : Nat) (fs cs : List (Nat × IFun)) : Nat → Nat → Option (List D → Option D)
  | 0, _ => none
  | k + 1, f => (lookF fs f).map fun F ds => (run ⟨G, tG G I N fs cs k, calF G (tG G I N fs cs k) I N cs 4, I⟩ N F ds [] 0).bind fun r => expo r.2.1 r.1
theorem ctx_okT {P : Program} (hm : P.follows .mixedOrders = true) {G : Nat → Option (List D)} {T : Nat → Option (List D → Option D)} {I : Nat → List D → Option (List (List D))} {N : Nat} {fs : List (Nat × IFun)} (hI : ∀ gf caps xs, I gf caps = some xs → IterOK P gf caps xs) (hT : ∀ f s, T f = some s → PureC P G f s) (hf : ∀ f F, lookF fs f = some F → fchk P f F = true) :
    ∀ k, CtxOK P ⟨G, T, calF G T I N fs k, I⟩ := by
  intro k
  induction k with
  | zero => exact ⟨hT, fun f ds hp nx d hp' nx' h => by simp [calF] at h, hI⟩
  | succ k ih =>
    refine ⟨hT, fun f ds hp nx d hp' nx' h => ?_, hI⟩
    simp only [calF] at h
    split at h
    · rename_i F hF
      have key := fun hp' nx' h => fun_ok (N := N) (C := ⟨G, T, calF G T I N fs k, I⟩) (ds := ds) (hp := hp) (nx := nx) (d := d) (hp' := hp') (nx' := nx') ih hm (hf _ _ hF) h
      revert h
      cases hr : run ⟨G, T, calF G T I N fs k, I⟩ N F ds hp nx with
      | none => intro h; simp [gcr] at h
      | some r =>
        obtain ⟨d1, hp1, nx1⟩ := r
        intro h
        simp only [gcr] at h
        split at h
        · rename_i hc
          simp only [Bool.and_eq_true] at hc
          simp only [Option.some.injEq, Prod.mk.injEq] at h
          obtain ⟨rfl, rfl, rfl⟩ := h
          exact (key hp1 nx1 hr).gc hc.1 hc.2
        · simp only [Option.some.injEq, Prod.mk.injEq] at h
          obtain ⟨rfl, rfl, rfl⟩ := h
          exact key hp1 nx1 hr
    · simp at h
theorem tG_ok {P : Program} (hm : P.follows .mixedOrders = true) {G : Nat → Option (List D)} {I : Nat → List D → Option (List (List D))} {N : Nat} {fs cs : List (Nat × IFun)} (hI : ∀ gf caps xs, I gf caps = some xs → IterOK P gf caps xs) (h1 : ∀ f F, lookF fs f = some F → fchk P f F = true) (h2 : ∀ f F, lookF cs f = some F → fchk P f F = true) :
    ∀ k f s, tG G I N fs cs k f = some s → PureC P G f s := by
  intro k
  induction k with
  | zero => intro f s h; simp [tG] at h
  | succ k ih =>
    intro f s h
    simp only [tG, Option.map_eq_some_iff] at h
    obtain ⟨F, hF, rfl⟩ := h
    refine pure_ok (N := N) (C := ⟨G, tG G I N fs cs k, calF G (tG G I N fs cs k) I N cs 4, I⟩) (ctx_okT hm hI ih h2 4) hm (h1 f F hF) fun ds r _ hr => ?_
    simp only [Option.bind_eq_some_iff] at hr
    obtain ⟨⟨d, hp', nx'⟩, e1, e2⟩ := hr
    exact ⟨d, hp', nx', e1, e2⟩
theorem g1_ev (G : Nat → Option (List D)) (I : Nat → List D → Option (List (List D))) : (((tG G I (maxLen + 11) gfs gcs 8 33).bind fun s => s [.v (.int .i64 1)]).map weak) = some (.agg gm1.d) := by kernel_rfl
theorem g0_ev (G : Nat → Option (List D)) (I : Nat → List D → Option (List (List D))) : (((tG G I (maxLen + 11) gfs gcs 8 33).bind fun s => s [.v (.int .i64 0)]).map weak) = some (.agg gm0.d) := by kernel_rfl
end Go.Proofs.Dv
set_option maxRecDepth 100000
namespace Go.Proofs.Dv
theorem gm1_ok : chkM gm1 = 0 := by kernel_rfl
theorem gm0_ok : chkM gm0 = 0 := by kernel_rfl
end Go.Proofs.Dv
set_option linter.unusedVariables false
set_option linter.unusedSimpArgs false
set_option maxRecDepth 100000
namespace Go.Proofs.Dv
open Go.RowKit
open Nat renaming reduceEqDiff → zA, reduceAdd → zB, reduceSub → zC, reduceLeDiff → zD, reduceLT → zE, reduceMul → zF
open Int renaming reduceToNat → zG, reduceLE → zH, reduceLT → zI
open List renaming set_cons_zero → zJ, set_cons_succ → zK
def I64b (x : Int) : Bool := decide (-9223372036854775808 ≤ x) && decide (x ≤ 9223372036854775807)
def U64b (x : Int) : Bool := decide (0 ≤ x) && decide (x < 18446744073709551616)
theorem I64b_ok {x : Int} (h : I64b x = true) : I64 x := by simpa [I64b, I64] using h
theorem U64b_ok {x : Int} (h : U64b x = true) : U64 x := by simpa [U64b, U64] using h
mutual
def T.twB : T → Bool
  | .mk k w b _ l s => decide (0 ≤ k) && (I64b w && (U64b b && (I64b l && T.twsB s)))
def T.twsB : List T → Bool
  | [] => true
  | t :: ts => T.twB t && T.twsB ts
end
mutual
theorem T.twB_ok : ∀ t : T, T.twB t = true → T.tw t
  | .mk k w b n l s, h => by
    simp only [T.twB, Bool.and_eq_true, decide_eq_true_eq] at h
    exact ⟨h.1, I64b_ok h.2.1, U64b_ok h.2.2.1, I64b_ok h.2.2.2.1, T.twsB_ok s h.2.2.2.2⟩
theorem T.twsB_ok : ∀ ts : List T, T.twsB ts = true → T.tws ts
  | [], _ => trivial
  | t :: ts, h => by
    simp only [T.twsB, Bool.and_eq_true] at h
    exact ⟨T.twB_ok t h.1, T.twsB_ok ts h.2⟩
end
def Mc.twB (m : Mc) : Bool := (m.instrs.all fun i => U64b i.mask && U64b i.match_ && i.effects.all fun e => e.addr.twB && e.value.twB && e.cond.twB) && m.regs.all fun r => I64b r.width && I64b r.of_ && I64b r.low
theorem Mc.twB_ok {m : Mc} (h : m.twB = true) : m.tw := by
  simp only [Mc.twB, Bool.and_eq_true, List.all_eq_true] at h
  refine ⟨fun i hi => ?_, fun r hr => ?_⟩
  · obtain ⟨⟨h1, h2⟩, h3⟩ := h.1 i hi
    exact ⟨U64b_ok h1, U64b_ok h2, fun e he => ⟨T.twB_ok _ (h3 e he).1.1, T.twB_ok _ (h3 e he).1.2, T.twB_ok _ (h3 e he).2⟩⟩
  · obtain ⟨⟨h1, h2⟩, h3⟩ := h.2 r hr
    exact ⟨I64b_ok h1, I64b_ok h2, I64b_ok h3⟩
def lenB : D → Bool
  | .agg ds => lenBs ds
  | .lst _ es => decide (es.length ≤ 1000) && lenBss es
  | .rp ds => lenBs ds
  | .fn _ ds => lenBs ds
  | .tup ds => lenBs ds
  | _ => true
where
  lenBs : List D → Bool
    | [] => true
    | d :: ds => lenB d && lenBs ds
  lenBss : List (List D) → Bool
    | [] => true
    | e :: es => lenBs e && lenBss es
mutual
theorem lenB_ok : ∀ d : D, lenB d = true → lenOK d
  | .v _, _ => by simp only [lenOK]
  | .agg ds, h => by simp only [lenB] at h; simp only [lenOK]; exact lenBs_ok ds h
  | .lst _ es, h => by
    simp only [lenB, Bool.and_eq_true, decide_eq_true_eq] at h
    simp only [lenOK]
    exact ⟨by have := maxLen_ge; omega, lenBss_ok es h.2⟩
  | .rp ds, h => by simp only [lenB] at h; simp only [lenOK]; exact lenBs_ok ds h
  | .fn _ ds, h => by simp only [lenB] at h; simp only [lenOK]; exact lenBs_ok ds h
  | .tup ds, h => by simp only [lenB] at h; simp only [lenOK]; exact lenBs_ok ds h
  | .own _ _, _ => by simp only [lenOK]
  | .ptr _ _, _ => by simp only [lenOK]
  | .mp _, _ => by simp only [lenOK]
  | .junk, _ => by simp only [lenOK]
theorem lenBs_ok : ∀ ds : List D, lenB.lenBs ds = true → lenOK.lenOKs ds
  | [], _ => by simp only [lenOK.lenOKs]
  | d :: ds, h => by
    simp only [lenB.lenBs, Bool.and_eq_true] at h
    simp only [lenOK.lenOKs]
    exact ⟨lenB_ok d h.1, lenBs_ok ds h.2⟩
theorem lenBss_ok : ∀ es : List (List D), lenB.lenBss es = true → lenOK.lenOKss es
  | [], _ => by simp only [lenOK.lenOKss]
  | e :: es, h => by
    simp only [lenB.lenBss, Bool.and_eq_true] at h
    simp only [lenOK.lenOKss]
    exact ⟨lenBs_ok e h.1, lenBss_ok es h.2⟩
end
theorem gm1_terms : MZ gm1 ∧ TOKs gm1 := great_terms (by kernel_rfl) (Mc.twB_ok (by kernel_rfl)) (lenBs_ok _ (by kernel_rfl))
theorem gm0_terms : MZ gm0 ∧ TOKs gm0 := great_terms (by kernel_rfl) (Mc.twB_ok (by kernel_rfl)) (lenBs_ok _ (by kernel_rfl))
theorem gm1_reg : RegZ gm1 := chk_regz ((chk_eq gm1_terms.1 gm1_terms.2) ▸ gm1_ok)
theorem gm1_fine : Fine gm1 := (chk_fine ((chk_eq gm1_terms.1 gm1_terms.2) ▸ gm1_ok)).1
theorem gm0_fine : Fine gm0 ∧ (gm0.address = 16 ∨ gm0.address = 32) ∧ (1 ≤ gm0.word ∧ gm0.word ≤ 4) := chk_fine ((chk_eq gm0_terms.1 gm0_terms.2) ▸ gm0_ok)
end Go.Proofs.Dv
set_option linter.unusedVariables false
set_option linter.unusedSimpArgs false
set_option maxRecDepth 100000
namespace Go.Proofs.Dv
open Go.RowKit
open Nat renaming reduceEqDiff → zA, reduceAdd → zB, reduceSub → zC, reduceLeDiff → zD, reduceLT → zE, reduceMul → zF
open Int renaming reduceToNat → zG, reduceLE → zH, reduceLT → zI
open List renaming set_cons_zero → zJ, set_cons_succ → zK
def s_Given : List D → Option D
  | [.v (.int .i64 k)] => if k = 1 then some (.agg gm1.d) else if k = 0 then some (.agg gm0.d) else none
  | _ => none
theorem e_Given1 : s_Given [.v (.int .i64 1)] = some (.agg gm1.d) := nr rfl
theorem e_Given0 : s_Given [.v (.int .i64 0)] = some (.agg gm0.d) := nr rfl
def wk2 (s : List D → Option D) : List D → Option D
  | a :: b :: r => s (a :: weak b :: r)
  | ds => s ds
theorem wk2_eq {s : List D → Option D} {a b : D} {r : List D} : wk2 s (a :: b :: r) = s (a :: weak b :: r) := nr rfl
theorem PureC.wk2 {P : Program} {G : Nat → Option (List D)} {f : Nat} {s : List D → Option D} (h : PureC P G f s) : PureC P G f (wk2 s) := by
  refine ⟨h.1, fun w S vs ds r h1 h2 h3 h4 => ?_⟩
  match ds, h3, h4 with
  | [], h3, h4 => exact h.2 w S vs [] r h1 h2 h3 h4
  | [a], h3, h4 => exact h.2 w S vs [a] r h1 h2 h3 h4
  | a :: b :: t, h3, h4 =>
    refine h.2 w S vs (a :: Dv.weak b :: t) r h1 h2 ⟨h3.1, fun j hj => ?_⟩ h4
    obtain ⟨v, v1, v2⟩ := h3.2 j hj
    refine ⟨v, v1, ?_⟩
    cases j with
    | zero => exact v2
    | succ j =>
      cases j with
      | zero => exact Rd.weak _ _ _ v2
      | succ j => exact v2
theorem weak_op {i : Int} {ex : Bool} {l : List Int} : weak (.agg [.v (.int .i64 i), .lst ex (l.map iD)]) = .agg [.v (.int .i64 i), .lst false (l.map iD)] := by
  simp only [weak, weaks_map, weakss_map, List.map_cons, List.map_nil, List.map_map, D.agg.injEq, List.cons.injEq, and_true, D.lst.injEq, true_and]
  exact List.map_congr_left fun x _ => by simp only [Function.comp, iD, List.map_cons, List.map_nil, weak]
def rdsB (rs : List Int) (reg want : Int) : Bool := match readD gm1 rs reg (errL gm1 (vlM gm1 rs) rs.length reg (chkM gm1)) with
  | .tup [.v (.int .u64 v), .v (.int .i64 e)] => decide (e = 0) && decide (v = want)
  | _ => false
def x_Reads (a : Bool × (List Int) × Int × Int) : List D := match a with | (f, rs, reg, x) => [.lst f (rs.map uD), .v (.int .i64 reg), .v (.int .u64 x)]
theorem i_Reads : ∀ a b, x_Reads a = x_Reads b → a = b := by
  rintro ⟨f, rs, reg, x⟩ ⟨f', rs', reg', x'⟩ h
  first | simpa [x_Reads, INJ, and_assoc, Int.ofNat_inj] using h | (simp [x_Reads, INJ, and_assoc, Int.ofNat_inj] at h; simp_all)
open Classical in
noncomputable def s_Reads : List D → Option D := sOf x_Reads fun a => match a with | (f, rs, reg, x) => if (rs.length ≤ 1000) then some (.v (.bool (rdsB rs reg x))) else none
theorem e_Reads {f : Bool} {rs : List Int} {reg : Int} {x : Int} (hc : (rs.length ≤ 1000)) : s_Reads [.lst f (rs.map uD), .v (.int .i64 reg), .v (.int .u64 x)] = some (.v (.bool (rdsB rs reg x))) := (sOf_eq i_Reads (f, rs, reg, x)).trans (if_pos hc)
theorem R_Reads {C : Ctx} {F : IFun} (hspec : ∀ N, maxLen + 10 < N → ∀ (f : Bool) (rs : List Int) (reg : Int) (x : Int), lenOK.lenOKs [.lst f (rs.map uD), .v (.int .i64 reg), .v (.int .u64 x)] → (rs.length ≤ 1000) → runE C N F [.lst f (rs.map uD), .v (.int .i64 reg), .v (.int .u64 x)] = some (.v (.bool (rdsB rs reg x)))) : Runs C F (s_Reads) := runs_of i_Reads fun N hN a r hl hf => by
  obtain ⟨f, rs, reg, x⟩ := a
  simp only [Option.ite_none_right_eq_some, Option.some.injEq] at hf
  obtain ⟨hc, rfl⟩ := hf
  exact hspec N hN f rs reg x hl hc
theorem reg_some {m : Mc} (hz : chkM m = 0 → RegZ m) {vl : Bool} {k : Nat} {reg : Int} : errL m vl k reg (chkM m) = 0 → ∃ r, m.regs[reg.toNat]? = some r := fun h => by
  obtain ⟨q1, q2, _, _⟩ := errL_ok (decide_eq_true h)
  exact (inB_get (by have := (hz q1).1; omega) q2).2
theorem r_reads (C : Ctx) (hG : C.T 33 = some s_Given) (hR : C.T 28 = some s_ReadF) : Runs C ir101 s_Reads := R_Reads fun N hN f rs reg x hl hc => by
  have e1 := @e_ReadF gm1 f rs reg ⟨gm1_terms.2, fun _ => gm1_reg, hc⟩
  obtain ⟨v, k, q⟩ := read_tup gm1 rs reg _ (reg_some (vl := vlM gm1 rs) (k := rs.length) fun _ => gm1_reg)
  have eG := e_Given1
  unfold rdsB
  rw [q] at e1 ⊢
  simp only [Mc.d] at e1 eG
  cases h0 : decide (k = 0)
  · simp -dsimp only [runE, run_eq, ir101, Mc.d, hG, eG, hR, e1, h0, EVs, ↓EVd, ↓reduceIte, zA, zB, zC, zD, zE, zF, reduceBEq, reduceCtorEq, zG, zH, zI, zJ, zK, dcells, okc]
  · simp -dsimp only [runE, run_eq, ir101, Mc.d, hG, eG, hR, e1, h0, EVs, ↓EVd, ↓reduceIte, zA, zB, zC, zD, zE, zF, reduceBEq, reduceCtorEq, zG, zH, zI, zJ, zK, dcells, okc]
def fitI (s : ByteArray) (l : List Int) : Int := bif decide (chkM gm1 = 0) then (bif decide (insI gm1 s < 0) then 6 else cop gm1 ⟨insI gm1 s, l⟩) else chkM gm1
def x_Fits (a : ByteArray × Bool × (List Int)) : List D := match a with | (s, ex, l) => [.v (.int .i64 1), .v (.string s), .lst ex (l.map iD)]
theorem i_Fits : ∀ a b, x_Fits a = x_Fits b → a = b := by
  rintro ⟨s, ex, l⟩ ⟨s', ex', l'⟩ h
  first | simpa [x_Fits, INJ, and_assoc, Int.ofNat_inj] using h | (simp [x_Fits, INJ, and_assoc, Int.ofNat_inj] at h; simp_all)
open Classical in
noncomputable def s_Fits : List D → Option D := sOf x_Fits fun a => match a with | (s, ex, l) => if (∀ a ∈ l, I64 a) then some (.v (.int .i64 (fitI s l))) else none
theorem e_Fits {s : ByteArray} {ex : Bool} {l : List Int} (hc : (∀ a ∈ l, I64 a)) : s_Fits [.v (.int .i64 1), .v (.string s), .lst ex (l.map iD)] = some (.v (.int .i64 (fitI s l))) := (sOf_eq i_Fits (s, ex, l)).trans (if_pos hc)
theorem R_Fits {C : Ctx} {F : IFun} (hspec : ∀ N, maxLen + 10 < N → ∀ (s : ByteArray) (ex : Bool) (l : List Int), lenOK.lenOKs [.v (.int .i64 1), .v (.string s), .lst ex (l.map iD)] → (∀ a ∈ l, I64 a) → runE C N F [.v (.int .i64 1), .v (.string s), .lst ex (l.map iD)] = some (.v (.int .i64 (fitI s l)))) : Runs C F (s_Fits) := runs_of i_Fits fun N hN a r hl hf => by
  obtain ⟨s, ex, l⟩ := a
  simp only [Option.ite_none_right_eq_some, Option.some.injEq] at hf
  obtain ⟨hc, rfl⟩ := hf
  exact hspec N hN s ex l hl hc
theorem r_fits (C : Ctx) (hG : C.T 33 = some s_Given) (hI : C.T 20 = some s_InsF) (hO : C.T 36 = some (wk2 s_COp)) : Runs C ir35 s_Fits := R_Fits fun N hN s ex l hl hc => by
  have e1 := @e_InsF gm1 s gm1_terms.2
  have eG := e_Given1
  have hk := gm1_ok
  unfold findD at e1
  unfold fitI
  rw [hk] at e1 ⊢
  have h0 : decide ((0 : Int) = 0) = true := rfl
  rw [h0] at e1 ⊢
  simp only [cond_true] at e1 ⊢
  simp only [Mc.d] at e1 eG
  cases h1 : decide (insI gm1 s < 0)
  · have e2 := @e_COp gm1 ⟨insI gm1 s, l⟩ ⟨gm1_terms.2, fun _ => gm1_fine, hc⟩
    simp only [Mc.d, Mo.d] at e2
    rw [h1] at e1
    simp only [cond_false] at e1
    simp -dsimp only [runE, run_eq, ir35, Mc.d, hG, eG, hI, e1, h1, hO, wk2_eq, weak_op, e2, layd, h0, EVs, ↓EVd, ↓reduceIte, zA, zB, zC, zD, zE, zF, reduceBEq, reduceCtorEq, zG, zH, zI, zJ, zK, dcells, okc]
  · rw [h1] at e1
    simp only [cond_true] at e1
    simp -dsimp only [runE, run_eq, ir35, Mc.d, hG, eG, hI, e1, h1, layd, Int.reduceEq, EVs, ↓EVd, ↓reduceIte, zA, zB, zC, zD, zE, zF, reduceBEq, reduceCtorEq, zG, zH, zI, zJ, zK, dcells, okc]
end Go.Proofs.Dv
set_option linter.unusedVariables false
set_option linter.unusedSimpArgs false
set_option maxRecDepth 100000
namespace Go.Proofs.Dv
open Go.RowKit
open Nat renaming reduceEqDiff → zA, reduceAdd → zB, reduceSub → zC, reduceLeDiff → zD, reduceLT → zE, reduceMul → zF
open Int renaming reduceToNat → zG, reduceLE → zH, reduceLT → zI
open List renaming set_cons_zero → zJ, set_cons_succ → zK
def azs : List Int := 0 :: List.replicate 10 0
def av0 : List Int := 4660 :: List.replicate 10 0
def av1 : List Int := 4863 :: List.replicate 10 0
def avr : List Int := [0, 1, 2, 3, 4, 5, 6, 7, 16, 17, 18]
theorem a_al : findD 0 (regI gm1 (strK [97, 108])) = .tup [.v (.int .i64 8), .v (.int .i64 0)] := by kernel_rfl
theorem a_ah : findD 0 (regI gm1 (strK [97, 104])) = .tup [.v (.int .i64 12), .v (.int .i64 0)] := by kernel_rfl
theorem a_roots : rootsD gm1 0 = .tup [.lst false (avr.map iD), .v (.int .i64 0)] := by kernel_rfl
theorem a_write : writeD gm1 av0 8 255 (errL gm1 (vlM gm1 av0) av0.length 8 0) = .tup [.lst false (av1.map uD), .v (.int .i64 0)] := by kernel_rfl
theorem a_ov1 : ovD gm1 8 0 0 = .tup [.v (.bool true), .v (.int .i64 0)] := by kernel_rfl
theorem a_ov2 : ovD gm1 8 12 0 = .tup [.v (.bool false), .v (.int .i64 0)] := by kernel_rfl
theorem a_jump : findD 0 (insI gm0 (strK [106, 117, 109, 112])) = .tup [.v (.int .i64 32), .v (.int .i64 0)] := by kernel_rfl
theorem a_vars : varsD gm0 ⟨32, [-2]⟩ 100 (cop gm0 ⟨32, [-2]⟩) = .tup [.lst false [Bn.d ⟨strK [116, 111], 32, 96⟩, Bn.d ⟨strK [112, 99], 32, 100⟩], .v (.int .i64 0)] := by kernel_rfl
theorem a_rd1 : rdsB av0 12 18 = true := by kernel_rfl
theorem a_rd2 : rdsB av1 0 4863 = true := by kernel_rfl
theorem a_ft1 : fitI (strK [109, 111, 118, 105]) [2, -64] = 0 := by kernel_rfl
theorem a_ft2 : fitI (strK [109, 111, 118, 105]) [2, -65] = 24 := by kernel_rfl
def s_Alive : List D → Option D
  | [] => some (.v (.bool true))
  | _ => none
theorem e_Alive : s_Alive [] = some (.v (.bool true)) := nr rfl
set_option maxHeartbeats 4000000 in
theorem r_alive (C : Ctx) (hG : C.T 33 = some s_Given) (hR : C.T 18 = some s_RegF) (hRo : C.T 22 = some s_RootsF) (hW : C.T 30 = some s_WriteF) (hOv : C.T 26 = some s_OverF) (hI : C.T 20 = some s_InsF) (hV : C.T 34 = some (wk2 s_VarsMv)) (hrd : C.T 101 = some s_Reads) (hft : C.T 35 = some s_Fits) : Runs C ir37 s_Alive := by
  intro N hN ds r hl hs
  cases ds with
  | cons d ds => simp [s_Alive] at hs
  | nil =>
    simp only [s_Alive, Option.some.injEq] at hs
    subst hs
    have g1 := e_Given1
    have g0 := e_Given0
    have k1 := @e_RegF gm1 (strK [97, 108]) gm1_terms.2
    have k2 := @e_RegF gm1 (strK [97, 104]) gm1_terms.2
    have k3 := @e_RootsF gm1 gm1_terms.2
    have k4 := @e_WriteF gm1 false av0 8 255 ⟨gm1_terms.2, fun _ => gm1_reg, by decide⟩
    have k5 := @e_OverF gm1 8 0 ⟨gm1_terms.2, fun _ => gm1_reg⟩
    have k6 := @e_OverF gm1 8 12 ⟨gm1_terms.2, fun _ => gm1_reg⟩
    have k7 := @e_InsF gm0 (strK [106, 117, 109, 112]) gm0_terms.2
    have k8 := @e_VarsMv gm0 ⟨32, [-2]⟩ 100 ⟨gm0_terms.2, fun _ => gm0_fine, by simp [I64], by simp [U64]⟩
    have k9 := @e_Reads false av0 12 18 (by decide)
    have k10 := @e_Reads false av1 0 4863 (by decide)
    have k11 := @e_Fits (strK [109, 111, 118, 105]) true [2, -64] (by simp [I64])
    have k12 := @e_Fits (strK [109, 111, 118, 105]) true [2, -65] (by simp [I64])
    rw [gm1_ok] at k1 k2 k3 k4 k5 k6
    rw [gm0_ok] at k7
    rw [a_al] at k1
    rw [a_ah] at k2
    rw [a_roots] at k3
    rw [a_write] at k4
    rw [a_ov1] at k5
    rw [a_ov2] at k6
    rw [a_jump] at k7
    rw [a_vars] at k8
    rw [a_rd1] at k9
    rw [a_rd2] at k10
    rw [a_ft1] at k11
    rw [a_ft2] at k12
    have w1 := @weak_op 32 true [-2]
    have m1 : (List.replicate 11 [D.v (.int .u64 0)]).flatten = azs.map uV := rfl
    have m2 : D.v (.int .u64 4660) :: List.drop 1 (azs.map uV) = av0.map uV := rfl
    have m4 : azs.length = 11 := rfl
    have b3 : decide ((0 : Int) < ((11 : Nat) : Int)) = true := by decide
    have m5 : av0.length = 11 := rfl
    have m6 : avr.length = 11 := rfl
    have b1 : decide ((11 : Int) * ((8 : Nat) : Int) ≤ 140737488355328) = true := by decide
    have b2 : decide ((11 : Int) * 8 ≤ 140737488355328) = true := by decide
    have b4 : decide (((11 : Nat) : Int) = 11) = true := by decide
    have b5 : decide (((2 : Nat) : Int) = 2) = true := by decide
    have b6 : decide (((0 + 1 + 1 : Nat) : Int) = 2) = true := by decide
    have hd2 : ∀ x : Int, decide (x = x) = true := fun x => decide_eq_true rfl
    have hd : ∀ x : ByteArray, decide (x = x) = true := fun x => decide_eq_true rfl
    simp only [Mc.d, Mo.d, Bn.d, strK, List.map_cons, List.map_nil, iD] at g1 g0 k1 k2 k3 k4 k5 k6 k7 k8 k9 k10 k11 k12 w1
    simp -dsimp only [EVm, runE, run_eq, ir37, Mc.d, b1, b2, b3, b4, b5, b6, hd2, hG, g1, g0, hR, k1, k2, hRo, k3, m1, m2, m4, m5, m6, uV_cls, uV_sing, hW, k4, hOv, k5, k6, hI, k7, hV, wk2_eq, w1, k8, hrd, k9, k10, hft, k11, k12, layd, hd, List.length_map, EVs, ↓EVd, ↓reduceIte, zA, zB, zC, zD, zE, zF, reduceBEq, reduceCtorEq, zG, zH, zI, zJ, zK, dcells, okc]
end Go.Proofs.Dv
set_option linter.unusedVariables false
set_option linter.unusedSimpArgs false
set_option maxRecDepth 100000
namespace Go.Proofs.Dv
open Go.RowKit
open Nat renaming reduceEqDiff → zA, reduceAdd → zB, reduceSub → zC, reduceLeDiff → zD, reduceLT → zE, reduceMul → zF
open Int renaming reduceToNat → zG, reduceLE → zH, reduceLT → zI
open List renaming set_cons_zero → zJ, set_cons_succ → zK
theorem chk_regw {m : Mc} (h : chkR m = 0) {i : Nat} {r : Rg} (hi : m.regs[i]? = some r) : ∃ q, m.regs[(topOf r i).toNat]? = some q ∧ q.of_ = -1 ∧ r.low + r.width ≤ q.width ∧ 0 ≤ topOf r i := by
  have h64 := chkR_regs h
  have hz := chk_regz h
  have hr := chk_regsR h
  simp only [regsR, Bool.and_eq_true] at hr
  have h1 := allI_get _ _ hr.1 i r hi
  simp only [Nat.zero_add, rgAt, Bool.and_eq_true] at h1
  obtain ⟨⟨_, hw⟩, _, hrest⟩ := h1
  have hw := inB_iff.1 hw
  unfold regRest at hrest
  unfold topOf
  cases g : decide (r.of_ = -1) with
  | true =>
    rw [g, cond_true] at hrest
    have hlow : r.low = 0 := by simpa using hrest
    have g' : r.of_ = -1 := by simpa using g
    rw [if_pos g']
    exact ⟨r, by simpa using hi, g', by omega, by omega⟩
  | false =>
    rw [g, cond_false] at hrest
    have g' : ¬ r.of_ = -1 := by simpa using g
    cases g2 : inB r.of_ 0 (IntKind.i64.wrap ((m.regs.length : Int) - 1)) with
    | false => rw [g2] at hrest; simp at hrest
    | true =>
      obtain ⟨hge, p, hp⟩ := inB_get (by omega) g2
      rw [g2, hp] at hrest
      simp only [Bool.not_true, cond_false, Bool.and_eq_true, decide_eq_true_eq] at hrest
      obtain ⟨k1, k2, k3, k4⟩ := hrest
      have k3 := inB_iff.1 k3
      have k4 := inB_iff.1 k4
      rw [wr _ (by omega) (by omega)] at k4
      rw [if_neg g']
      exact ⟨p, hp, k1, by omega, by simpa using hge⟩
theorem idx_lt2 {x : Int} : ∀ (l : List Int) (n : Nat), x ∈ l → ∃ p : Nat, p < l.length ∧ idx x l n = ((n + p : Nat) : Int) ∧ l[p]? = some x
  | [], n, h => by simp at h
  | y :: l, n, h => by
    rw [idx]
    by_cases e : x = y
    · rw [if_pos e]; exact ⟨0, by simp, rfl, by simp [e]⟩
    · rw [if_neg e]
      obtain ⟨p, h1, h2, h3⟩ := idx_lt2 l (n + 1) (by rcases List.mem_cons.1 h with h | h; exact (e h).elim; exact h)
      exact ⟨p + 1, by simp; omega, by rw [h2]; congr 1; omega, by simpa using h3⟩
theorem piece_w {m : Mc} (h : chkR m = 0) {reg : Int} (h0 : decide (0 ≤ reg) = true) {r : Rg} (hr : m.regs[reg.toNat]? = some r) :
    ∃ p : Nat, pieceP m reg r = (p : Int) ∧ (topsL m)[p]? = some (topOf r reg) ∧ p < (topsL m).length ∧ r.low + r.width ≤ wAt m p := by
  have hz := chk_regz h
  obtain ⟨p, h1, h2, h3⟩ := idx_lt2 _ 0 (top_mem hz h0 hr)
  refine ⟨p, by unfold pieceP; rw [h2]; simp, h3, h1, ?_⟩
  obtain ⟨q, k1, k2, k3, k4⟩ := chk_regw h hr
  have e : ((reg.toNat : Nat) : Int) = reg := by have := of_decide_eq_true h0; omega
  rw [e] at k1
  obtain ⟨q', l1, l2, l3⟩ := top_at h3
  rw [k1] at l1
  simp only [Option.some.injEq] at l1
  subst l1
  rw [l3]; exact k3
theorem vl_iff {m : Mc} {rs : List Int} : vlM m rs = true ↔ ∀ (j : Nat) x, rs[j]? = some x → okI (wAt m j) x = true := by
  have key : ∀ (xs : List Int) (a : Nat), scOK (scan (tst (fun (a : Nat) x => okI (wAt m a) x) (fun a _ => a + 1) (fun _ _ => ())) a xs) = true ↔ ∀ (j : Nat) x, xs[j]? = some x → okI (wAt m (a + j)) x = true := by
    intro xs
    induction xs with
    | nil => intro a; simp [scan, scOK]
    | cons y xs ih =>
      intro a
      simp only [scan, tst]
      cases hy : okI (wAt m a) y with
      | true =>
        simp only [if_true]
        rw [ih]
        constructor
        · intro h j x hx
          cases j with
          | zero => simp at hx; subst hx; exact hy
          | succ j =>
            have := h j x (by simpa using hx)
            rwa [show a + 1 + j = a + (j + 1) by omega] at this
        · intro h j x hx
          have := h (j + 1) x (by simpa using hx)
          rwa [show a + (j + 1) = a + 1 + j by omega] at this
      | false =>
        simp only [Bool.false_eq_true, if_false]
        constructor
        · intro h; simp [scOK] at h
        · intro h
          have := h 0 y (by simp)
          rw [Nat.add_zero, hy] at this
          simp at this
  have := key rs 0
  simp only [Nat.zero_add] at this
  exact this
theorem vl_set {m : Mc} {rs : List Int} {p : Nat} {v : Int} (h : vlM m rs = true) (hv : okI (wAt m p) v = true) : vlM m (rs.set p v) = true := by
  rw [vl_iff] at h ⊢
  intro j x hx
  rw [List.getElem?_set] at hx
  split at hx
  · rename_i e
    split at hx
    · simp only [Option.some.injEq] at hx
      subst e hx; exact hv
    · simp at hx
  · exact h j x hx
theorem ok_iff {w x : Int} (h1 : 1 ≤ w) (h2 : w ≤ 64) : okI w x = true ↔ x < p2 w.toNat := by
  rw [ok_below h1 h2]; simp
theorem p2n (n : Nat) : p2 n = ((2 ^ n : Nat) : Int) := by simp [p2]
theorem lt_bits {M k : Nat} (h : ∀ i, k ≤ i → M.testBit i = false) : M < 2 ^ k := Nat.lt_pow_two_of_testBit M fun i hi => h i hi
theorem field_bit {M L W j : Nat} : (M / 2 ^ L % 2 ^ W).testBit j = (decide (j < W) && M.testBit (L + j)) := by
  rw [Nat.testBit_mod_two_pow, Nat.testBit_div_two_pow, Nat.add_comm j L]
theorem wr_lt {Y X L W R : Nat} (hY : Y < 2 ^ R) (hR : R ≤ 64) (hX : X < 2 ^ W) (h1 : 1 ≤ W) (h2 : L + W ≤ R) : ∃ M : Nat, wrM (Y : Int) (X : Int) (L : Int) (W : Int) = (M : Int) ∧ M < 2 ^ R ∧
    ∀ i, i < 64 → M.testBit i = if L ≤ i ∧ i < L + W then X.testBit (i - L) else Y.testBit i := by
  have hR2 : 2 ^ R ≤ 2 ^ 64 := Nat.pow_le_pow_right (by omega) hR
  obtain ⟨M, m1, m2, m3⟩ := wr_bits (Y := Y) (X := X) (L := L) (W := W) (by omega) hX h1 (by omega)
  refine ⟨M, m1, lt_bits fun i hi => ?_, m3⟩
  by_cases h : i < 64
  · rw [m3 i h, if_neg (by omega)]
    exact Nat.testBit_lt_two_pow (Nat.lt_of_lt_of_le hY (Nat.pow_le_pow_right (by omega) hi))
  · exact Nat.testBit_lt_two_pow (Nat.lt_of_lt_of_le m2 (Nat.pow_le_pow_right (by omega) (by omega)))
theorem rd_nat {M L W : Nat} (hM : M < 2 ^ 64) (h1 : 1 ≤ W) (h2 : L + W ≤ 64) : rdM (M : Int) (L : Int) (W : Int) = ((M / 2 ^ L % 2 ^ W : Nat) : Int) := by
  rw [rdMN (by omega) (by omega) (by omega) (by omega)]
  unfold rdN
  simp only [Int.toNat_natCast]
end Go.Proofs.Dv
set_option linter.unusedVariables false
set_option linter.unusedSimpArgs false
set_option maxRecDepth 100000
namespace Go.Proofs.Dv
open Go.RowKit
open Nat renaming reduceEqDiff → zA, reduceAdd → zB, reduceSub → zC, reduceLeDiff → zD, reduceLT → zE, reduceMul → zF
open Int renaming reduceToNat → zG, reduceLE → zH, reduceLT → zI
open List renaming set_cons_zero → zJ, set_cons_succ → zK
theorem errL_zero {m : Mc} {vl : Bool} {k : Nat} {reg : Int} (h1 : inB reg 0 (IntKind.i64.wrap ((m.regs.length : Int) - 1)) = true) (h2 : (topsL m).length = k) (h3 : vl = true) : errL m vl k reg 0 = 0 := by
  unfold errL
  rw [h1, h2, h3]
  simp
theorem ovD_ok {m : Mc} {a b : Int} (h1 : inB a 0 (IntKind.i64.wrap ((m.regs.length : Int) - 1)) = true) (h2 : inB b 0 (IntKind.i64.wrap ((m.regs.length : Int) - 1)) = true) : ovD m a b 0 = .tup [.v (.bool (ovB m a b)), .v (.int .i64 0)] := by
  unfold ovD
  rw [h1, h2]; rfl
theorem writeD_ok {m : Mc} {rs : List Int} {reg x : Int} {r : Rg} {p : Nat} (hr : m.regs[reg.toNat]? = some r) (hp : pieceP m reg r = (p : Int)) (h : okI r.width x = true) : writeD m rs reg x 0 = .tup [.lst false ((rs.set p (wrM (rs.getD p 0) x r.low r.width)).map uD), .v (.int .i64 0)] := by
  unfold writeD
  rw [hr]
  simp only [hp, h, Int.toNat_natCast]
  rfl
theorem readD_ok {m : Mc} {rs : List Int} {reg : Int} {r : Rg} {p : Nat} (hr : m.regs[reg.toNat]? = some r) (hp : pieceP m reg r = (p : Int)) : readD m rs reg 0 = .tup [.v (.int .u64 (rdM (rs.getD p 0) r.low r.width)), .v (.int .i64 0)] := by
  unfold readD
  rw [hr]
  simp only [hp, Int.toNat_natCast]
  rfl
end Go.Proofs.Dv
set_option linter.unusedVariables false
set_option linter.unusedSimpArgs false
set_option maxRecDepth 100000
namespace Go.Proofs.Dv
open Go.RowKit
open Nat renaming reduceEqDiff → zA, reduceAdd → zB, reduceSub → zC, reduceLeDiff → zD, reduceLT → zE, reduceMul → zF
open Int renaming reduceToNat → zG, reduceLE → zH, reduceLT → zI
open List renaming set_cons_zero → zJ, set_cons_succ → zK
theorem write_val {m : Mc} (h : chkR m = 0) {rs : List Int} {reg x : Int} {r : Rg} (h0 : decide (0 ≤ reg) = true) (hr : m.regs[reg.toNat]? = some r) (hlen : (topsL m).length = rs.length) (hv : vlM m rs = true) (hu : ∀ x ∈ rs, 0 ≤ x ∧ x < 18446744073709551616) (hx0 : 0 ≤ x) (hx : okI r.width x = true) :
    ∃ (p : Nat) (Y X L W M : Nat), pieceP m reg r = (p : Int) ∧ p < rs.length ∧ rs[p]? = some (Y : Int) ∧ x = (X : Int) ∧ r.low = (L : Int) ∧ r.width = (W : Int) ∧ 1 ≤ W ∧ L + W ≤ 64 ∧ X < 2 ^ W ∧ Y < 2 ^ 64 ∧ wrM (Y : Int) (X : Int) (L : Int) (W : Int) = (M : Int) ∧ M < 2 ^ 64 ∧
      vlM m (rs.set p (M : Int)) = true ∧ (∀ x ∈ rs.set p (M : Int), 0 ≤ x ∧ x < 18446744073709551616) := by
  have hz := chk_regz h
  obtain ⟨p, hp, hpt, hpl, hpw⟩ := piece_w h h0 hr
  have hrw := (hz.2 _ _ hr).1
  have hwa := top_width hz hpt
  rw [hlen] at hpl
  obtain ⟨y, hy⟩ : ∃ y, rs[p]? = some y := ⟨_, List.getElem?_eq_getElem hpl⟩
  have hyb := hu y (List.mem_of_getElem? hy)
  have hyo := vl_iff.1 hv p y hy
  obtain ⟨Y, rfl⟩ : ∃ k : Nat, y = k := ⟨y.toNat, by omega⟩
  obtain ⟨X, rfl⟩ : ∃ k : Nat, x = k := ⟨x.toNat, by omega⟩
  obtain ⟨L, hL⟩ : ∃ k : Nat, r.low = k := ⟨r.low.toNat, by omega⟩
  obtain ⟨W, hW⟩ : ∃ k : Nat, r.width = k := ⟨r.width.toNat, by omega⟩
  obtain ⟨R, hR⟩ : ∃ k : Nat, wAt m p = k := ⟨(wAt m p).toNat, by omega⟩
  rw [ok_iff hwa.1 hwa.2, hR, Int.toNat_natCast, p2n] at hyo
  rw [hW] at hx hrw
  rw [ok_iff (by omega) (by omega), Int.toNat_natCast, p2n] at hx
  obtain ⟨M, m1, m2, _⟩ := wr_lt (Y := Y) (X := X) (L := L) (W := W) (R := R) (by omega) (by omega) (by omega) (by omega) (by omega)
  have hR2 : 2 ^ R ≤ 2 ^ 64 := Nat.pow_le_pow_right (by omega) (by omega)
  refine ⟨p, Y, X, L, W, M, hp, hpl, hy, rfl, hL, hW, by omega, by omega, by omega, by omega, m1, by omega, vl_set hv ?_, fun z hz => ?_⟩
  · rw [ok_iff hwa.1 hwa.2, hR, Int.toNat_natCast, p2n]; omega
  · rcases List.mem_or_eq_of_mem_set hz with h | h
    · exact hu z h
    · subst h; omega
end Go.Proofs.Dv
set_option linter.unusedVariables false
set_option linter.unusedSimpArgs false
set_option maxRecDepth 100000
namespace Go.Proofs.Dv
open Go.RowKit
open Nat renaming reduceEqDiff → zA, reduceAdd → zB, reduceSub → zC, reduceLeDiff → zD, reduceLT → zE, reduceMul → zF
open Int renaming reduceToNat → zG, reduceLE → zH, reduceLT → zI
open List renaming set_cons_zero → zJ, set_cons_succ → zK
theorem ext64 {A B : Nat} (hA : A < 2 ^ 64) (hB : B < 2 ^ 64) (h : ∀ i, i < 64 → A.testBit i = B.testBit i) : A = B := by
  refine Nat.eq_of_testBit_eq fun i => ?_
  by_cases hi : i < 64
  · exact h i hi
  · rw [Nat.testBit_lt_two_pow (Nat.lt_of_lt_of_le hA (Nat.pow_le_pow_right (by omega) (by omega))), Nat.testBit_lt_two_pow (Nat.lt_of_lt_of_le hB (Nat.pow_le_pow_right (by omega) (by omega)))]
theorem wr_back {Y X L W : Nat} (hY : Y < 2 ^ 64) (hX : X < 2 ^ W) (h1 : 1 ≤ W) (h2 : L + W ≤ 64) : ∃ Z : Nat, rdM (Y : Int) (L : Int) (W : Int) = (Z : Int) ∧ Z < 2 ^ W ∧ wrM (Y : Int) (Z : Int) (L : Int) (W : Int) = (Y : Int) ∧ wrM (wrM (Y : Int) (X : Int) (L : Int) (W : Int)) (Z : Int) (L : Int) (W : Int) = (Y : Int) := by
  have hZ : Y / 2 ^ L % 2 ^ W < 2 ^ W := Nat.mod_lt _ (Nat.two_pow_pos W)
  refine ⟨Y / 2 ^ L % 2 ^ W, rd_nat hY h1 h2, hZ, ?_, ?_⟩
  · obtain ⟨M, m1, m2, m3⟩ := wr_bits hY hZ h1 h2
    rw [m1]
    congr 1
    refine ext64 m2 hY fun i hi => ?_
    rw [m3 i hi]
    by_cases h : L ≤ i ∧ i < L + W
    · rw [if_pos h, field_bit, decide_eq_true (by omega), Bool.true_and, show L + (i - L) = i by omega]
    · rw [if_neg h]
  · obtain ⟨M, m1, m2, m3⟩ := wr_bits hY hX h1 h2
    obtain ⟨M', n1, n2, n3⟩ := wr_bits (Y := M) m2 hZ h1 h2
    rw [m1, n1]
    congr 1
    refine ext64 n2 hY fun i hi => ?_
    rw [n3 i hi]
    by_cases h : L ≤ i ∧ i < L + W
    · rw [if_pos h, field_bit, decide_eq_true (by omega), Bool.true_and, show L + (i - L) = i by omega]
    · rw [if_neg h, m3 i hi, if_neg h]
theorem wr_swap {Y X L W X' L' W' : Nat} (hY : Y < 2 ^ 64) (hX : X < 2 ^ W) (h1 : 1 ≤ W) (h2 : L + W ≤ 64) (hX' : X' < 2 ^ W') (h1' : 1 ≤ W') (h2' : L' + W' ≤ 64) (hd : L + W ≤ L' ∨ L' + W' ≤ L) :
    wrM (wrM (Y : Int) (X : Int) (L : Int) (W : Int)) (X' : Int) (L' : Int) (W' : Int) = wrM (wrM (Y : Int) (X' : Int) (L' : Int) (W' : Int)) (X : Int) (L : Int) (W : Int) := by
  obtain ⟨M, m1, m2, m3⟩ := wr_bits hY hX h1 h2
  obtain ⟨M', n1, n2, n3⟩ := wr_bits hY hX' h1' h2'
  obtain ⟨A, a1, a2, a3⟩ := wr_bits (Y := M) m2 hX' h1' h2'
  obtain ⟨B, b1, b2, b3⟩ := wr_bits (Y := M') n2 hX h1 h2
  rw [m1, n1, a1, b1]
  congr 1
  refine ext64 a2 b2 fun i hi => ?_
  rw [a3 i hi, b3 i hi, m3 i hi, n3 i hi]
  by_cases h : L ≤ i ∧ i < L + W
  · rw [if_neg (by omega), if_pos h, if_pos h]
  · rw [if_neg h, if_neg h]
theorem write_form (m : Mc) (rs : List Int) (reg x e : Int) (h : e = 0 → ∃ r, m.regs[reg.toNat]? = some r) : ∃ (f : Bool) (l : List Int) (E : Int), writeD m rs reg x e = .tup [.lst f (l.map uD), .v (.int .i64 E)] := by
  rcases write_cases m rs reg x e h with ⟨E, h1, _⟩ | ⟨l, _, h1, _⟩
  · exact ⟨true, [], E, by rw [h1]; rfl⟩
  · exact ⟨false, l, 0, h1⟩
theorem set_back {l : List Int} {p : Nat} {y : Int} (h : l[p]? = some y) : l.set p y = l := by
  obtain ⟨hp, rfl⟩ := List.getElem?_eq_some_iff.1 h
  exact List.set_getElem_self hp
def x_LawTwice (a : Mc × Bool × (List Int) × Int × Int × Int × Int) : List D := match a with | (m, f, rs, a, b, x, y) => [.agg m.d, .lst f (rs.map uD), .v (.int .i64 a), .v (.int .i64 b), .v (.int .u64 x), .v (.int .u64 y)]
theorem i_LawTwice : ∀ a b, x_LawTwice a = x_LawTwice b → a = b := by
  rintro ⟨m, f, rs, a, b, x, y⟩ ⟨m', f', rs', a', b', x', y'⟩ h
  first | simpa [x_LawTwice, INJ, and_assoc, Int.ofNat_inj] using h | (simp [x_LawTwice, INJ, and_assoc, Int.ofNat_inj] at h; simp_all)
open Classical in
noncomputable def s_LawTwice : List D → Option D := sOf x_LawTwice fun a => match a with | (m, f, rs, a, b, x, y) => if (m.tw ∧ (∀ x ∈ rs, 0 ≤ x ∧ x < 18446744073709551616) ∧ (0 ≤ x ∧ x < 18446744073709551616) ∧ 0 ≤ y ∧ y < 18446744073709551616) then some (.v (.bool true)) else none
theorem e_LawTwice {m : Mc} {f : Bool} {rs : List Int} {a : Int} {b : Int} {x : Int} {y : Int} (hc : (m.tw ∧ (∀ x ∈ rs, 0 ≤ x ∧ x < 18446744073709551616) ∧ (0 ≤ x ∧ x < 18446744073709551616) ∧ 0 ≤ y ∧ y < 18446744073709551616)) : s_LawTwice [.agg m.d, .lst f (rs.map uD), .v (.int .i64 a), .v (.int .i64 b), .v (.int .u64 x), .v (.int .u64 y)] = some (.v (.bool true)) := (sOf_eq i_LawTwice (m, f, rs, a, b, x, y)).trans (if_pos hc)
theorem R_LawTwice {C : Ctx} {F : IFun} (hspec : ∀ N, maxLen + 10 < N → ∀ (m : Mc) (f : Bool) (rs : List Int) (a : Int) (b : Int) (x : Int) (y : Int), lenOK.lenOKs [.agg m.d, .lst f (rs.map uD), .v (.int .i64 a), .v (.int .i64 b), .v (.int .u64 x), .v (.int .u64 y)] → (m.tw ∧ (∀ x ∈ rs, 0 ≤ x ∧ x < 18446744073709551616) ∧ (0 ≤ x ∧ x < 18446744073709551616) ∧ 0 ≤ y ∧ y < 18446744073709551616) → runE C N F [.agg m.d, .lst f (rs.map uD), .v (.int .i64 a), .v (.int .i64 b), .v (.int .u64 x), .v (.int .u64 y)] = some (.v (.bool true))) : Runs C F (s_LawTwice) := runs_of i_LawTwice fun N hN a r hl hf => by
  obtain ⟨m, f, rs, a, b, x, y⟩ := a
  simp only [Option.ite_none_right_eq_some, Option.some.injEq] at hf
  obtain ⟨hc, rfl⟩ := hf
  exact hspec N hN m f rs a b x y hl hc
set_option maxHeartbeats 8000000 in
theorem r_MachineTwice (C : Ctx) (hA : C.T 37 = some s_Alive) (hG : C.T 11 = some s_GreatM) (hOv : C.T 26 = some s_OverF) (hW : C.T 30 = some s_WriteF) (hR : C.T 28 = some s_ReadF) (hS : C.T 32 = some s_SameW) : Runs C ir8 s_LawTwice := R_LawTwice fun N hN m f rs a b x y hl hc => by
  obtain ⟨htw, hrs, hx, hy⟩ := hc
  have eA := e_Alive
  have eG := @e_GreatM m
  simp only [Mc.d] at eG
  have hd : ∀ x : Int, decide (x = x) = true := fun x => decide_eq_true rfl
  cases g1 : greatM m
  case true => simp -dsimp only [runE, run_eq, ir8, Mc.d, hA, eA, hG, eG, g1, EVs, ↓EVd, ↓reduceIte, zA, zB, zC, zD, zE, zF, reduceBEq, reduceCtorEq, zG, zH, zI, zJ, zK, dcells, okc]
  cases g2 : decide ((100 : Int) < (rs.length : Int))
  case true => simp -dsimp only [runE, run_eq, ir8, Mc.d, hA, eA, hG, eG, g1, g2, EVs, ↓EVd, ↓reduceIte, zA, zB, zC, zD, zE, zF, reduceBEq, reduceCtorEq, zG, zH, zI, zJ, zK, dcells, okc]
  have hrl : rs.length ≤ 1000 := by have := of_decide_eq_false g2; omega
  have hlm : lenOK.lenOKs m.d := by simp only [EVl] at hl; exact hl.1
  obtain ⟨t1, t2⟩ := great_terms g1 htw hlm
  have hck := chk_eq t1 t2
  have hz : chkM m = 0 → RegZ m := fun h => chk_regz (hck ▸ h)
  have k1 := @e_ReadF m f rs a ⟨t2, hz, hrl⟩
  cases h0 : decide (errL m (vlM m rs) rs.length a (chkM m) = 0)
  · unfold readD at k1
    rw [h0] at k1
    simp only [Bool.not_false, cond_true] at k1
    simp only [Mc.d] at k1
    simp -dsimp only [runE, run_eq, ir8, Mc.d, hA, eA, hG, eG, g1, g2, hR, k1, h0, EVs, ↓EVd, ↓reduceIte, zA, zB, zC, zD, zE, zF, reduceBEq, reduceCtorEq, zG, zH, zI, zJ, zK, dcells, okc]
  have he := of_decide_eq_true h0
  obtain ⟨h1, h2, h3, h4⟩ := errL_ok h0
  have hR0 : chkR m = 0 := hck ▸ h1
  have h64 := chkR_regs hR0
  obtain ⟨ha, r, hr⟩ := inB_get (by omega) h2
  have hrw := ((hz h1).2 _ _ hr).1
  obtain ⟨p, Y, _, L, W, _, hp, hpl, hpy, _, hL, hWi, v1, v2, _, v4, _⟩ := write_val (x := 0) hR0 ha hr h3 h4 hrs (Int.le_refl 0) (by rw [ok_iff hrw.1 hrw.2.1]; exact p2_pos _)
  have hg : rs.getD p 0 = (Y : Int) := by rw [List.getD_eq_getElem?_getD, hpy]; rfl
  obtain ⟨Z, z1, z2, z3, _⟩ := wr_back (X := 0) v4 (Nat.two_pow_pos W) v1 v2
  have hZo : okI r.width (Z : Int) = true := by rw [hWi, ok_iff (by omega) (by omega), Int.toNat_natCast, p2n]; omega
  rw [he, readD_ok hr hp, hg, hL, hWi, z1] at k1
  have k2 := @e_WriteF m f rs a (Z : Int) ⟨t2, hz, hrl⟩
  rw [he, writeD_ok hr hp hZo, hg, hL, hWi, z3, set_back hpy] at k2
  have s1 := @e_SameW false f rs
  have k3 := @e_WriteF m f rs a x ⟨t2, hz, hrl⟩
  have k4 := @e_WriteF m f rs b y ⟨t2, hz, hrl⟩
  cases h5 : okI r.width x
  · unfold writeD at k3
    rw [h0, hr] at k3
    simp only [h5, Bool.not_true, Bool.not_false, cond_true, cond_false] at k3
    obtain ⟨f', l', E', q4⟩ := write_form m rs b y (errL m (vlM m rs) rs.length b (chkM m)) (reg_some hz)
    rw [q4] at k4
    simp only [Mc.d] at k1 k2 k3 k4
    simp -dsimp only [runE, run_eq, ir8, Mc.d, hA, eA, hG, eG, g1, g2, hR, k1, hW, k2, hS, s1, k3, k4, Int.reduceEq, EVs, ↓EVd, ↓reduceIte, zA, zB, zC, zD, zE, zF, reduceBEq, reduceCtorEq, zG, zH, zI, zJ, zK, dcells, okc]
  obtain ⟨p1, Y1, X, L1, W1, M, hp1, _, hpy1, rfl, hL1, hW1, _, _, v3, _, hM, v5, v6, v7⟩ := write_val hR0 ha hr h3 h4 hrs hx.1 h5
  obtain rfl : p1 = p := by omega
  obtain rfl : L1 = L := by omega
  obtain rfl : W1 = W := by omega
  obtain rfl : Y1 = Y := by rw [hpy] at hpy1; simp only [Option.some.injEq] at hpy1; omega
  rw [he, writeD_ok hr hp h5, hg, hL, hWi, hM] at k3
  have hsl : (rs.set p1 (M : Int)).length = rs.length := List.length_set
  have hset : (rs.set p1 (M : Int))[p1]? = some (M : Int) := by rw [List.getElem?_set, if_pos rfl, if_pos hpl]
  have hg2 : (rs.set p1 (M : Int)).getD p1 0 = (M : Int) := by rw [List.getD_eq_getElem?_getD, hset]; rfl
  have hb4 : wrM (M : Int) (Z : Int) (L1 : Int) (W1 : Int) = (Y1 : Int) := by
    obtain ⟨Z', y1, y2, y3, y4⟩ := wr_back (X := X) v4 v3 v1 v2
    have : Z' = Z := by rw [z1] at y1; omega
    rw [this, hM] at y4
    exact y4
  have k5 := @e_WriteF m false (rs.set p1 (M : Int)) a (Z : Int) ⟨t2, hz, by omega⟩
  rw [h1, errL_zero h2 (by omega) v6, writeD_ok hr hp hZo, hg2, hL, hWi, hb4, List.set_set, set_back hpy] at k5
  have k6 := @e_OverF m a b ⟨t2, hz⟩
  cases hb2 : inB b 0 (IntKind.i64.wrap ((m.regs.length : Int) - 1))
  · have heb : errL m (vlM m rs) rs.length b (chkM m) = 2 := by unfold errL; rw [h1, hb2]; rfl
    unfold writeD at k4
    rw [heb] at k4
    unfold ovD at k6
    rw [h1, hb2] at k6
    simp only [decide_true, Bool.not_true, Bool.not_false, Bool.or_true, cond_true, cond_false, Int.reduceEq, decide_false] at k4 k6
    generalize rs.set p1 (M : Int) = one at k3 k5
    simp only [Mc.d] at k1 k2 k3 k4 k5 k6
    simp -dsimp only [runE, run_eq, ir8, Mc.d, hA, eA, hG, eG, g1, g2, hR, k1, hW, k2, hS, s1, k3, k4, k5, hOv, k6, Int.reduceEq, EVs, ↓EVd, ↓reduceIte, zA, zB, zC, zD, zE, zF, reduceBEq, reduceCtorEq, zG, zH, zI, zJ, zK, dcells, okc]
  obtain ⟨hbb, q, hq⟩ := inB_get (by omega) hb2
  rw [h1, ovD_ok h2 hb2] at k6
  have heb := errL_zero hb2 h3 h4
  rw [h1, heb] at k4
  cases h6 : okI q.width y
  · unfold writeD at k4
    rw [hq] at k4
    simp only [h6, decide_true, Bool.not_true, Bool.not_false, cond_true, cond_false] at k4
    generalize rs.set p1 (M : Int) = one at k3 k5
    simp only [Mc.d] at k1 k2 k3 k4 k5 k6
    simp -dsimp only [runE, run_eq, ir8, Mc.d, hA, eA, hG, eG, g1, g2, hR, k1, hW, k2, hS, s1, k3, k4, k5, hOv, k6, Int.reduceEq, EVs, ↓EVd, ↓reduceIte, zA, zB, zC, zD, zE, zF, reduceBEq, reduceCtorEq, zG, zH, zI, zJ, zK, dcells, okc]
  obtain ⟨p', Y', X', L', W', M', hp', hpl', hpy', rfl, hL', hW', u1, u2, u3, u4, hM', u5, u6, u7⟩ := write_val hR0 hbb hq h3 h4 hrs hy.1 h6
  have hg' : rs.getD p' 0 = (Y' : Int) := by rw [List.getD_eq_getElem?_getD, hpy']; rfl
  rw [writeD_ok hq hp' h6, hg', hL', hW', hM'] at k4
  cases h7 : ovB m a b
  case true =>
    rw [h7] at k6
    generalize rs.set p1 (M : Int) = one at k3 k5
    generalize rs.set p' (M' : Int) = two at k4
    simp only [Mc.d] at k1 k2 k3 k4 k5 k6
    simp -dsimp only [runE, run_eq, ir8, Mc.d, hA, eA, hG, eG, g1, g2, hR, k1, hW, k2, hS, s1, k3, k4, k5, hOv, k6, EVs, ↓EVd, ↓reduceIte, zA, zB, zC, zD, zE, zF, reduceBEq, reduceCtorEq, zG, zH, zI, zJ, zK, dcells, okc]
  rw [h7] at k6
  have hsl' : (rs.set p' (M' : Int)).length = rs.length := List.length_set
  have k7 := @e_WriteF m false (rs.set p1 (M : Int)) b (X' : Int) ⟨t2, hz, by omega⟩
  have k8 := @e_WriteF m false (rs.set p' (M' : Int)) a (X : Int) ⟨t2, hz, by omega⟩
  rw [h1, errL_zero hb2 (by omega) v6, writeD_ok hq hp' h6, hL', hW'] at k7
  rw [h1, errL_zero h2 (by omega) u6, writeD_ok hr hp h5, hL, hWi] at k8
  have hlr : (rs.set p1 (M : Int)).set p' (wrM ((rs.set p1 (M : Int)).getD p' 0) (X' : Int) (L' : Int) (W' : Int)) = (rs.set p' (M' : Int)).set p1 (wrM ((rs.set p' (M' : Int)).getD p1 0) (X : Int) (L1 : Int) (W1 : Int)) := by
    have hxx : ovB m a b = (decide ((p1 : Int) = (p' : Int)) && (decide (r.low < q.low + q.width) && decide (q.low < r.low + r.width))) := by
      unfold ovB; rw [hr, hq]; simp only [hp, hp']
    rw [hxx] at h7
    simp only [List.getD_eq_getElem?_getD, List.getElem?_set]
    by_cases e : p1 = p'
    · subst e
      obtain rfl : Y' = Y1 := by rw [hpy] at hpy'; simp only [Option.some.injEq] at hpy'; omega
      rw [decide_eq_true rfl, Bool.true_and, hL, hL', hWi, hW', Bool.and_eq_false_iff, decide_eq_false_iff_not, decide_eq_false_iff_not] at h7
      simp only [if_pos hpl, if_true, List.set_set, Option.getD_some]
      rw [← hM, ← hM', wr_swap v4 v3 v1 v2 u3 u1 u2 (by omega)]
    · rw [if_neg e, if_neg (fun h => e h.symm), hpy, hpy', Option.getD_some, Option.getD_some, hM, hM', List.set_comm _ _ e]
  rw [hlr] at k7
  generalize (rs.set p' (M' : Int)).set p1 (wrM ((rs.set p' (M' : Int)).getD p1 0) (X : Int) (L1 : Int) (W1 : Int)) = last at k7 k8
  have s2 := @e_SameW false false last
  generalize rs.set p1 (M : Int) = one at k3 k5 k7
  generalize rs.set p' (M' : Int) = two at k4 k8
  simp only [Mc.d] at k1 k2 k3 k4 k5 k6 k7 k8
  simp -dsimp only [runE, run_eq, ir8, Mc.d, hA, eA, hG, eG, g1, g2, hR, k1, hW, k2, hS, s1, k3, k4, k5, hOv, k6, k7, k8, s2, EVs, ↓EVd, ↓reduceIte, zA, zB, zC, zD, zE, zF, reduceBEq, reduceCtorEq, zG, zH, zI, zJ, zK, dcells, okc]
end Go.Proofs.Dv
