/- A part of the proof of one statement about the given program: a verified evaluator of the model's code, and contracts of functions (YC YD YE YF YG YH). No condition of its own. -/
import Derived.Test.YtkfjdlbkmomffaaDoorV04
set_option linter.unusedVariables false
set_option linter.unusedSimpArgs false
set_option linter.defProp false
set_option linter.constructorNameAsVariable false
set_option linter.unusedVariables false
set_option linter.unusedSimpArgs false
set_option maxRecDepth 100000
namespace Go.Proofs.Dv
open Go.RowKit
open Nat renaming reduceEqDiff → zA, reduceAdd → zB, reduceSub → zC, reduceLeDiff → zD, reduceLT → zE, reduceMul → zF
open Int renaming reduceToNat → zG, reduceLE → zH, reduceLT → zI
open List renaming set_cons_zero → zJ, set_cons_succ → zK
theorem idx_neg (n : Int) (l : List Int) : decide (idx n l 0 < 0) = !has n l := by
  rw [← idx_nonneg n l 0]
  by_cases h : idx n l 0 < 0
  · rw [decide_eq_true h, decide_eq_false (by omega)]; rfl
  · rw [decide_eq_false h, decide_eq_true (by omega)]; rfl
def x_Sui (a : Mc × Mo) : List D := match a with | (m, op) => [.agg m.d, .agg op.d]
theorem i_Sui : ∀ a b, x_Sui a = x_Sui b → a = b := by
  rintro ⟨m, op⟩ ⟨m', op'⟩ h
  first | simpa [x_Sui, INJ, and_assoc, Int.ofNat_inj] using h | (simp [x_Sui, INJ, and_assoc, Int.ofNat_inj] at h; simp_all)
open Classical in
noncomputable def s_Sui : List D → Option D := sOf x_Sui fun a => match a with | (m, op) => if (Fine m ∧ ∀ a ∈ op.args, I64 a) then some (.v (.int .i64 (suits m op))) else none
theorem e_Sui {m : Mc} {op : Mo} (hc : (Fine m ∧ ∀ a ∈ op.args, I64 a)) : s_Sui [.agg m.d, .agg op.d] = some (.v (.int .i64 (suits m op))) := (sOf_eq i_Sui (m, op)).trans (if_pos hc)
theorem R_Sui {C : Ctx} {F : IFun} (hspec : ∀ N, maxLen + 10 < N → ∀ (m : Mc) (op : Mo), lenOK.lenOKs [.agg m.d, .agg op.d] → (Fine m ∧ ∀ a ∈ op.args, I64 a) → runE C N F [.agg m.d, .agg op.d] = some (.v (.int .i64 (suits m op)))) : Runs C F (s_Sui) := runs_of i_Sui fun N hN a r hl hf => by
  obtain ⟨m, op⟩ := a
  simp only [Option.ite_none_right_eq_some, Option.some.injEq] at hf
  obtain ⟨hc, rfl⟩ := hf
  exact hspec N hN m op hl hc
set_option maxHeartbeats 2000000 in
theorem r_Suits (C : Ctx) (hW : C.T 40 = some s_in) (hR : C.T 45 = some s_Rng) (hP : C.T 46 = some s_PlaceO) : Runs C ir21 s_Sui := R_Sui fun N hN m op hl hc => by
  obtain ⟨⟨f1, f2⟩, t3⟩ := hc
  have w1 := @e_in op.instr 0 (IntKind.i64.wrap ((m.instrs.length : Int) - 1))
  unfold suits
  cases h1 : inB op.instr 0 (IntKind.i64.wrap ((m.instrs.length : Int) - 1))
  · simp -dsimp only [runE, run_eq, ir21, Mc.d, Mo.d, hW, w1, h1, EVs, ↓EVd, ↓reduceIte, zA, zB, zC, zD, zE, zF, reduceBEq, reduceCtorEq, zG, zH, zI, zJ, zK, dcells, okc]
  obtain ⟨hge, s, hs⟩ := inB_get (by omega) h1
  obtain ⟨f3, f4⟩ := f2 s (List.mem_of_getElem? hs)
  rw [hs]
  simp only [Bool.not_true, cond_false]
  cases h2 : decide ((op.args.length : Int) = s.operands.length)
  · simp -dsimp only [runE, run_eq, ir21, Mc.d, Mo.d, Ins.d, hW, w1, h1, hge, hs, h2, EVs, ↓EVd, ↓reduceIte, zA, zB, zC, zD, zE, zF, reduceBEq, reduceCtorEq, zG, zH, zI, zJ, zK, dcells, okc]
  have hml := maxLen_ge
  rw [Bool.not_true, cond_false]
  simp -dsimp only [runE, run_eq, ir21, Mc.d, Mo.d, Ins.d, hW, w1, h1, hge, hs, h2, EVs, ↓EVd, ↓reduceIte, zA, zB, zC, zD, zE, zF, reduceBEq, reduceCtorEq, zG, zH, zI, zJ, zK, dcells, okc]
  generalize hI : iter _ _ _ _ = I
  revert I
  refine iter_test s.operands (fun j _ => ⟨[(2, .ptr 0 0), (3, .ptr 1 0), (5, .ptr 2 0), (6, .v (.int .i64 j))], [(2, .box s.d), (1, .box op.d), (0, .box m.d)], 3⟩) (fun (i : Nat) o => decide (suitAt m op.args i o = 0)) (fun i _ => i + 1) (fun i o => suitAt m op.args i o) (fun i a => a = i) 0 (by omega) hN ?_ rfl ?_ ?_ ?_
  · simp -dsimp only [Mc.d, Mo.d, Ins.d, EVs, ↓EVd, ↓reduceIte, zA, zB, zC, zD, zE, zF, reduceBEq, reduceCtorEq, zG, zH, zI, zJ, zK, dcells, okc]
  · rintro _ j o hj hjw ho rfl
    refine ⟨?_, fun _ => rfl⟩
    obtain ⟨n, hn⟩ := args_at h2 ho
    obtain ⟨q1, q2⟩ := f4 o (List.mem_of_getElem? ho)
    by_cases hk : o.kind = 1
    · have hk' : decide (o.kind = 1) = true := decide_eq_true hk
      obtain ⟨⟨b, hb⟩, htl⟩ := q1 hk
      have hb1 := at_some hb
      have eH := @e_PlaceO b n
      simp only [Bk.d] at eH
      have eL := idx_neg n b.regs
      cases c1 : has n b.regs
      · have hq : suitAt m op.args j o = 16 := by simp only [suitAt, if_pos hk, bankRegs, hb, hn, Option.getD_some, c1]; rfl
        simp -dsimp only [lp21x0, Mc.d, Mo.d, Ins.d, Opn.d, Bk.d, iD, hj, hjw, ho, hn, hk', hb1.1, hb1.2, hP, eH, eL, c1, hq, Int.reduceEq, EVs, ↓EVd, ↓reduceIte, zA, zB, zC, zD, zE, zF, reduceBEq, reduceCtorEq, zG, zH, zI, zJ, zK, dcells, okc]
      · cases c2 : decide (0 ≤ o.tied)
        · have hq : suitAt m op.args j o = 0 := by simp only [suitAt, if_pos hk, bankRegs, hb, hn, Option.getD_some, c1, c2]; rfl
          simp -dsimp only [lp21x0, Mc.d, Mo.d, Ins.d, Opn.d, Bk.d, iD, hj, hjw, ho, hn, hk', hb1.1, hb1.2, hP, eH, eL, c1, c2, hq, EVs, ↓EVd, ↓reduceIte, zA, zB, zC, zD, zE, zF, reduceBEq, reduceCtorEq, zG, zH, zI, zJ, zK, dcells, okc]
        · obtain ⟨n', hn1, hn2⟩ := tied_at h2 htl c2
          cases c3 : decide (n' = n)
          · have hq : suitAt m op.args j o = 40 := by simp only [suitAt, if_pos hk, bankRegs, hb, hn, Option.getD_some, c1, c2, hn2, c3]; rfl
            simp -dsimp only [lp21x0, Mc.d, Mo.d, Ins.d, Opn.d, Bk.d, iD, hj, hjw, ho, hn, hk', hb1.1, hb1.2, hP, eH, eL, c1, c2, hn1, c3, hq, Int.reduceEq, EVs, ↓EVd, ↓reduceIte, zA, zB, zC, zD, zE, zF, reduceBEq, reduceCtorEq, zG, zH, zI, zJ, zK, dcells, okc]
          · have hq : suitAt m op.args j o = 0 := by simp only [suitAt, if_pos hk, bankRegs, hb, hn, Option.getD_some, c1, c2, hn2, c3]; rfl
            simp -dsimp only [lp21x0, Mc.d, Mo.d, Ins.d, Opn.d, Bk.d, iD, hj, hjw, ho, hn, hk', hb1.1, hb1.2, hP, eH, eL, c1, c2, hn1, c3, hq, EVs, ↓EVd, ↓reduceIte, zA, zB, zC, zD, zE, zF, reduceBEq, reduceCtorEq, zG, zH, zI, zJ, zK, dcells, okc]
    · have hk' : decide (o.kind = 1) = false := decide_eq_false hk
      obtain ⟨r1, r2, r3, r4⟩ := q2 hk
      have eR := @e_Rng o n ⟨r1, r2, r3, r4, t3 n (List.mem_of_getElem? hn)⟩
      simp only [Opn.d] at eR
      cases c1 : rngB o n
      · have hq : suitAt m op.args j o = 24 := by simp only [suitAt, if_neg hk, hn, Option.getD_some, c1]; rfl
        simp -dsimp only [lp21x0, Mc.d, Mo.d, Ins.d, Opn.d, Bk.d, iD, hj, hjw, ho, hn, hk', hR, eR, c1, hq, Int.reduceEq, EVs, ↓EVd, ↓reduceIte, zA, zB, zC, zD, zE, zF, reduceBEq, reduceCtorEq, zG, zH, zI, zJ, zK, dcells, okc]
      · have hq : suitAt m op.args j o = 0 := by simp only [suitAt, if_neg hk, hn, Option.getD_some, c1]; rfl
        simp -dsimp only [lp21x0, Mc.d, Mo.d, Ins.d, Opn.d, Bk.d, iD, hj, hjw, ho, hn, hk', hR, eR, c1, hq, EVs, ↓EVd, ↓reduceIte, zA, zB, zC, zD, zE, zF, reduceBEq, reduceCtorEq, zG, zH, zI, zJ, zK, dcells, okc]
  · rintro _ j o hj ho rfl hsc
    have hsc' : suitS m op s = .out (suitAt m op.args j o) := hsc
    rw [hsc']
    obtain ⟨n, hn⟩ := args_at h2 ho
    obtain ⟨q1, q2⟩ := f4 o (List.mem_of_getElem? ho)
    by_cases hk : o.kind = 1
    · have hk' : decide (o.kind = 1) = true := decide_eq_true hk
      obtain ⟨⟨b, hb⟩, htl⟩ := q1 hk
      have hb1 := at_some hb
      have eH := @e_PlaceO b n
      simp only [Bk.d] at eH
      have eL := idx_neg n b.regs
      cases c1 : has n b.regs
      · have hq : suitAt m op.args j o = 16 := by simp only [suitAt, if_pos hk, bankRegs, hb, hn, Option.getD_some, c1]; rfl
        simp -dsimp only [lp21x0, Mc.d, Mo.d, Ins.d, Opn.d, Bk.d, iD, hj, ho, hn, hk', hb1.1, hb1.2, hP, eH, eL, c1, hq, Int.reduceEq, scR, EVs, ↓EVd, ↓reduceIte, zA, zB, zC, zD, zE, zF, reduceBEq, reduceCtorEq, zG, zH, zI, zJ, zK, dcells, okc]
      · cases c2 : decide (0 ≤ o.tied)
        · have hq : suitAt m op.args j o = 0 := by simp only [suitAt, if_pos hk, bankRegs, hb, hn, Option.getD_some, c1, c2]; rfl
          simp -dsimp only [lp21x0, Mc.d, Mo.d, Ins.d, Opn.d, Bk.d, iD, hj, ho, hn, hk', hb1.1, hb1.2, hP, eH, eL, c1, c2, hq, scR, EVs, ↓EVd, ↓reduceIte, zA, zB, zC, zD, zE, zF, reduceBEq, reduceCtorEq, zG, zH, zI, zJ, zK, dcells, okc]
        · obtain ⟨n', hn1, hn2⟩ := tied_at h2 htl c2
          cases c3 : decide (n' = n)
          · have hq : suitAt m op.args j o = 40 := by simp only [suitAt, if_pos hk, bankRegs, hb, hn, Option.getD_some, c1, c2, hn2, c3]; rfl
            simp -dsimp only [lp21x0, Mc.d, Mo.d, Ins.d, Opn.d, Bk.d, iD, hj, ho, hn, hk', hb1.1, hb1.2, hP, eH, eL, c1, c2, hn1, c3, hq, Int.reduceEq, scR, EVs, ↓EVd, ↓reduceIte, zA, zB, zC, zD, zE, zF, reduceBEq, reduceCtorEq, zG, zH, zI, zJ, zK, dcells, okc]
          · have hq : suitAt m op.args j o = 0 := by simp only [suitAt, if_pos hk, bankRegs, hb, hn, Option.getD_some, c1, c2, hn2, c3]; rfl
            simp -dsimp only [lp21x0, Mc.d, Mo.d, Ins.d, Opn.d, Bk.d, iD, hj, ho, hn, hk', hb1.1, hb1.2, hP, eH, eL, c1, c2, hn1, c3, hq, scR, EVs, ↓EVd, ↓reduceIte, zA, zB, zC, zD, zE, zF, reduceBEq, reduceCtorEq, zG, zH, zI, zJ, zK, dcells, okc]
    · have hk' : decide (o.kind = 1) = false := decide_eq_false hk
      obtain ⟨r1, r2, r3, r4⟩ := q2 hk
      have eR := @e_Rng o n ⟨r1, r2, r3, r4, t3 n (List.mem_of_getElem? hn)⟩
      simp only [Opn.d] at eR
      cases c1 : rngB o n
      · have hq : suitAt m op.args j o = 24 := by simp only [suitAt, if_neg hk, hn, Option.getD_some, c1]; rfl
        simp -dsimp only [lp21x0, Mc.d, Mo.d, Ins.d, Opn.d, Bk.d, iD, hj, ho, hn, hk', hR, eR, c1, hq, Int.reduceEq, scR, EVs, ↓EVd, ↓reduceIte, zA, zB, zC, zD, zE, zF, reduceBEq, reduceCtorEq, zG, zH, zI, zJ, zK, dcells, okc]
      · have hq : suitAt m op.args j o = 0 := by simp only [suitAt, if_neg hk, hn, Option.getD_some, c1]; rfl
        simp -dsimp only [lp21x0, Mc.d, Mo.d, Ins.d, Opn.d, Bk.d, iD, hj, ho, hn, hk', hR, eR, c1, hq, scR, EVs, ↓EVd, ↓reduceIte, zA, zB, zC, zD, zE, zF, reduceBEq, reduceCtorEq, zG, zH, zI, zJ, zK, dcells, okc]
  · rintro _ rfl hsc
    have hsc' : suitS m op s = .go s.operands.length := hsc
    rw [hsc']
    simp -dsimp only [lp21x0, Ins.d, scR, EVs, ↓EVd, ↓reduceIte, zA, zB, zC, zD, zE, zF, reduceBEq, reduceCtorEq, zG, zH, zI, zJ, zK, dcells, okc]
def copR (m : Mc) (op : Mo) : Int := bif decide (chkR m = 0) then suits m op else chkR m
def x_COpR (a : Mc × Mo) : List D := match a with | (m, op) => [.agg m.d, .agg op.d]
theorem i_COpR : ∀ a b, x_COpR a = x_COpR b → a = b := by
  rintro ⟨m, op⟩ ⟨m', op'⟩ h
  first | simpa [x_COpR, INJ, and_assoc, Int.ofNat_inj] using h | (simp [x_COpR, INJ, and_assoc, Int.ofNat_inj] at h; simp_all)
open Classical in
noncomputable def s_COpR : List D → Option D := sOf x_COpR fun a => match a with | (m, op) => if (MZ m ∧ (chkR m = 0 → Fine m) ∧ ∀ a ∈ op.args, I64 a) then some (.v (.int .i64 (copR m op))) else none
theorem e_COpR {m : Mc} {op : Mo} (hc : (MZ m ∧ (chkR m = 0 → Fine m) ∧ ∀ a ∈ op.args, I64 a)) : s_COpR [.agg m.d, .agg op.d] = some (.v (.int .i64 (copR m op))) := (sOf_eq i_COpR (m, op)).trans (if_pos hc)
theorem R_COpR {C : Ctx} {F : IFun} (hspec : ∀ N, maxLen + 10 < N → ∀ (m : Mc) (op : Mo), lenOK.lenOKs [.agg m.d, .agg op.d] → (MZ m ∧ (chkR m = 0 → Fine m) ∧ ∀ a ∈ op.args, I64 a) → runE C N F [.agg m.d, .agg op.d] = some (.v (.int .i64 (copR m op)))) : Runs C F (s_COpR) := runs_of i_COpR fun N hN a r hl hf => by
  obtain ⟨m, op⟩ := a
  simp only [Option.ite_none_right_eq_some, Option.some.injEq] at hf
  obtain ⟨hc, rfl⟩ := hf
  exact hspec N hN m op hl hc
theorem r_CheckOp8 (C : Ctx) (hM : C.T 20 = some s_ChkR) (hS : C.T 21 = some s_Sui) : Runs C ir9 s_COpR := R_COpR fun N hN m op hl hc => by
  obtain ⟨t1, t2, t3⟩ := hc
  have eM := @e_ChkR m t1
  simp only [Mc.d] at eM
  unfold copR
  cases h0 : decide (chkR m = 0)
  · simp -dsimp only [runE, run_eq, ir9, Mc.d, Mo.d, hM, eM, h0, EVs, ↓EVd, ↓reduceIte, zA, zB, zC, zD, zE, zF, reduceBEq, reduceCtorEq, zG, zH, zI, zJ, zK, dcells, okc]
  have eS := @e_Sui m op ⟨t2 (by simpa using h0), t3⟩
  simp only [Mc.d, Mo.d] at eS
  simp -dsimp only [runE, run_eq, ir9, Mc.d, Mo.d, hM, eM, h0, hS, eS, EVs, ↓EVd, ↓reduceIte, zA, zB, zC, zD, zE, zF, reduceBEq, reduceCtorEq, zG, zH, zI, zJ, zK, dcells, okc]
end Go.Proofs.Dv
set_option linter.unusedVariables false
set_option linter.unusedSimpArgs false
set_option maxRecDepth 100000
namespace Go.Proofs.Dv
open Go.RowKit
open Nat renaming reduceEqDiff → zA, reduceAdd → zB, reduceSub → zC, reduceLeDiff → zD, reduceLT → zE, reduceMul → zF
open Int renaming reduceToNat → zG, reduceLE → zH, reduceLT → zI
open List renaming set_cons_zero → zJ, set_cons_succ → zK
def vN (m : Mc) (pc : Int) (o : Opn) (n : Int) : Int := if o.kind = 4 then pc + m.word * (n + 1) else n
def vB (m : Mc) (pc : Int) (o : Opn) (n : Int) : Bn := ⟨o.name, m.address, vN m pc o n % p2 m.address.toNat⟩
def vStep (m : Mc) (op : Mo) (pc : Int) (a : Nat × List Bn) (o : Opn) : Nat × List Bn := (a.1 + 1, if o.kind = 1 then a.2 else a.2 ++ [vB m pc o ((op.args[a.1]?).getD 0)])
def varsL (m : Mc) (op : Mo) (pc : Int) : List Bn := match m.instrs[op.instr.toNat]? with
  | some s => (s.operands.foldl (vStep m op pc) (0, [])).2 ++ [⟨strK [112, 99], m.address, pc⟩]
  | none => []
def vcode (m : Mc) (pc c : Int) : Int := bif decide (c = 0) then (bif decide (pc < p2 m.address.toNat) then 0 else 24) else c
def varsD (m : Mc) (op : Mo) (pc c : Int) : D := .tup [if vcode m pc c = 0 then .lst false ((varsL m op pc).map Bn.d) else .lst true [], .v (.int .i64 (vcode m pc c))]
theorem uwrap (y : Int) : IntKind.u64.wrap y = y % 18446744073709551616 := by simp [IntKind.wrap, IntKind.bits, IntKind.signed]
theorem umask {a : Int} (ha : a = 16 ∨ a = 32) {x : Int} (h0 : 0 ≤ x) (h1 : x < 18446744073709551616) : uand x (mskI a) = x % p2 a.toNat := by
  obtain ⟨X, rfl⟩ : ∃ X : Nat, x = X := ⟨x.toNat, by omega⟩
  have key : ∀ k : Nat, k ≤ 63 → uand (X : Int) ((2 ^ k - 1 : Nat) : Int) = ((X % 2 ^ k : Nat) : Int) := by
    intro k hk
    have h2 : 2 ^ k ≤ 2 ^ 63 := Nat.pow_le_pow_right (by omega) hk
    have h3 : (2 : Nat) ^ 63 < 2 ^ 64 := by decide
    rw [uand_nat (by omega) (by omega), Nat.and_two_pow_sub_one_eq_mod]
  rcases ha with rfl | rfl
  · exact key 16 (by omega)
  · exact key 32 (by omega)
theorem bits_m {m : Mc} (ha : m.address = 16 ∨ m.address = 32) (hw : 1 ≤ m.word ∧ m.word ≤ 4) {pc n : Int} (hp : U64 pc) :
    uand (IntKind.u64.wrap (pc + IntKind.u64.wrap (IntKind.u64.wrap m.word * IntKind.u64.wrap (IntKind.u64.wrap n + 1)))) (mskI m.address) = (pc + m.word * (n + 1)) % p2 m.address.toNat ∧
    uand (IntKind.u64.wrap n) (mskI m.address) = n % p2 m.address.toNat := by
  have h16 : p2 (16 : Int).toNat = 65536 := rfl
  have h32 : p2 (32 : Int).toNat = 4294967296 := rfl
  simp only [uwrap]
  constructor
  · rw [umask ha (by omega) (by omega)]
    have hm : m.word = 1 ∨ m.word = 2 ∨ m.word = 3 ∨ m.word = 4 := by omega
    rcases hm with h | h | h | h <;> rcases ha with h' | h' <;> rw [h, h'] <;> simp only [h16, h32] <;> omega
  · rw [umask ha (by omega) (by omega)]
    rcases ha with h' | h' <;> rw [h'] <;> simp only [h16, h32] <;> omega
def x_VarsMv (a : Mc × Mo × Int) : List D := match a with | (m, op, pc) => [.agg m.d, .agg op.d, .v (.int .u64 pc)]
theorem i_VarsMv : ∀ a b, x_VarsMv a = x_VarsMv b → a = b := by
  rintro ⟨m, op, pc⟩ ⟨m', op', pc'⟩ h
  first | simpa [x_VarsMv, INJ, and_assoc, Int.ofNat_inj] using h | (simp [x_VarsMv, INJ, and_assoc, Int.ofNat_inj] at h; simp_all)
open Classical in
noncomputable def s_VarsMv : List D → Option D := sOf x_VarsMv fun a => match a with | (m, op, pc) => if ((∀ i ∈ m.instrs, ∀ e ∈ i.effects, TOK e.addr ∧ TOK e.value ∧ TOK e.cond) ∧ (chkM m = 0 → Fine m ∧ (m.address = 16 ∨ m.address = 32) ∧ (1 ≤ m.word ∧ m.word ≤ 4)) ∧ (∀ a ∈ op.args, I64 a) ∧ U64 pc) then some (varsD m op pc (cop m op)) else none
theorem e_VarsMv {m : Mc} {op : Mo} {pc : Int} (hc : ((∀ i ∈ m.instrs, ∀ e ∈ i.effects, TOK e.addr ∧ TOK e.value ∧ TOK e.cond) ∧ (chkM m = 0 → Fine m ∧ (m.address = 16 ∨ m.address = 32) ∧ (1 ≤ m.word ∧ m.word ≤ 4)) ∧ (∀ a ∈ op.args, I64 a) ∧ U64 pc)) : s_VarsMv [.agg m.d, .agg op.d, .v (.int .u64 pc)] = some (varsD m op pc (cop m op)) := (sOf_eq i_VarsMv (m, op, pc)).trans (if_pos hc)
theorem R_VarsMv {C : Ctx} {F : IFun} (hspec : ∀ N, maxLen + 10 < N → ∀ (m : Mc) (op : Mo) (pc : Int), lenOK.lenOKs [.agg m.d, .agg op.d, .v (.int .u64 pc)] → ((∀ i ∈ m.instrs, ∀ e ∈ i.effects, TOK e.addr ∧ TOK e.value ∧ TOK e.cond) ∧ (chkM m = 0 → Fine m ∧ (m.address = 16 ∨ m.address = 32) ∧ (1 ≤ m.word ∧ m.word ≤ 4)) ∧ (∀ a ∈ op.args, I64 a) ∧ U64 pc) → runE C N F [.agg m.d, .agg op.d, .v (.int .u64 pc)] = some (varsD m op pc (cop m op))) : Runs C F (s_VarsMv) := runs_of i_VarsMv fun N hN a r hl hf => by
  obtain ⟨m, op, pc⟩ := a
  simp only [Option.ite_none_right_eq_some, Option.some.injEq] at hf
  obtain ⟨hc, rfl⟩ := hf
  exact hspec N hN m op pc hl hc
theorem scan_len {α : Type} {t : Nat → α → Bool} {v : Nat → α → Int} : ∀ (l : List α) (k r : Nat), scan (tst t (fun i _ => i + 1) v) k l = .go r → ∀ j x, l[j]? = some x → t (k + j) x = true
  | [], k, r, _ => fun j x hx => by simp at hx
  | y :: l, k, r, h => by
    simp only [scan, tst] at h
    cases ht : t k y with
    | false => rw [ht] at h; simp at h
    | true =>
      rw [ht] at h
      intro j x hx
      cases j with
      | zero => simp at hx; subst hx; exact ht
      | succ j =>
        have := scan_len l (k + 1) r (by simpa using h) j x (by simpa using hx)
        rwa [show k + 1 + j = k + (j + 1) by omega] at this
theorem suits_ok {m : Mc} {op : Mo} (hl : m.instrs.length ≤ 1000000) (h : suits m op = 0) : decide (0 ≤ op.instr) = true ∧ ∃ s, m.instrs[op.instr.toNat]? = some s ∧ decide ((op.args.length : Int) = s.operands.length) = true ∧ ∀ j o, s.operands[j]? = some o → suitAt m op.args j o = 0 := by
  unfold suits at h
  cases h1 : inB op.instr 0 (IntKind.i64.wrap ((m.instrs.length : Int) - 1)) with
  | false => rw [h1] at h; simp at h
  | true =>
    obtain ⟨hge, s, hs⟩ := inB_get hl h1
    rw [h1, hs] at h
    simp only [Bool.not_true, cond_false] at h
    cases h2 : decide ((op.args.length : Int) = s.operands.length) with
    | false => rw [h2] at h; simp at h
    | true =>
      rw [h2] at h
      simp only [Bool.not_true, cond_false] at h
      refine ⟨hge, s, hs, h2, fun j o ho => ?_⟩
      cases hsc : suitS m op s with
      | out c =>
        rw [hsc] at h
        have hc : c = 0 := h
        obtain ⟨i, x, hx⟩ : ∃ i x, c = suitAt m op.args i x ∧ ¬ suitAt m op.args i x = 0 := by
          have : ∀ (l : List Opn) (k : Nat), scan (tst (fun i o => decide (suitAt m op.args i o = 0)) (fun i _ => i + 1) fun i o => suitAt m op.args i o) k l = .out c → ∃ i x, c = suitAt m op.args i x ∧ ¬ suitAt m op.args i x = 0 := by
            intro l
            induction l with
            | nil => intro k h; simp [scan] at h
            | cons y l ih =>
              intro k h
              simp only [scan, tst] at h
              by_cases hq : suitAt m op.args k y = 0
              · rw [decide_eq_true hq] at h; exact ih (k + 1) (by simpa using h)
              · rw [decide_eq_false hq] at h
                simp at h
                exact ⟨k, y, h.symm, hq⟩
          exact this _ _ hsc
        exact (hx.2 (hx.1 ▸ hc)).elim
      | go r =>
        have := scan_len _ 0 r hsc j o ho
        simpa using this
set_option maxHeartbeats 2000000 in
theorem r_VarsM (C : Ctx) (hO : C.T 8 = some s_COp) (hK : C.T 13 = some s_Mask) : Runs C ir5 s_VarsMv := R_VarsMv fun N hN m op pc hl hc => by
  obtain ⟨t1, t2, t3, t4⟩ := hc
  have eO := @e_COp m op ⟨t1, fun h => (t2 h).1, t3⟩
  simp only [Mc.d, Mo.d] at eO
  have eK := @e_Mask m.address
  unfold varsD
  cases h0 : decide (cop m op = 0)
  · have hv : vcode m pc (cop m op) = cop m op := by simp only [vcode, h0, cond_false]
    rw [hv, if_neg (by simpa using h0)]
    simp -dsimp only [runE, run_eq, ir5, Mc.d, Mo.d, hO, eO, h0, EVs, ↓EVd, ↓reduceIte, zA, zB, zC, zD, zE, zF, reduceBEq, reduceCtorEq, zG, zH, zI, zJ, zK, dcells, okc]
  have h0' : cop m op = 0 := by simpa using h0
  have hm0 : decide (chkM m = 0) = true := by
    cases hh : decide (chkM m = 0) with
    | true => rfl
    | false => simp only [cop, hh, cond_false] at h0'; rw [h0'] at hh; simp at hh
  obtain ⟨⟨f1, f2⟩, ha, hwd⟩ := t2 (by simpa using hm0)
  simp only [cop, hm0, cond_true] at h0'
  obtain ⟨hge, s, hs, hlen, hsu⟩ := suits_ok (by omega) h0'
  have hmask : ∀ {x : Int}, decide (mskI m.address < x) = !decide (x < p2 m.address.toNat) := by
    intro x
    have : mskI m.address = p2 m.address.toNat - 1 := by
      unfold mskI; rw [if_pos (inB_iff.2 (by omega))]; rfl
    rw [this]
    by_cases hx : x < p2 m.address.toNat
    · rw [decide_eq_true hx, decide_eq_false (by omega)]; rfl
    · rw [decide_eq_false hx, decide_eq_true (by omega)]; rfl
  cases h3 : decide (pc < p2 m.address.toNat)
  · have hv : vcode m pc (cop m op) = 24 := by simp only [vcode, h0, h3, cond_true, cond_false]
    rw [hv, if_neg (by omega)]
    simp -dsimp only [runE, run_eq, ir5, Mc.d, Mo.d, hO, eO, h0, hK, eK, hmask, h3, EVs, ↓EVd, ↓reduceIte, zA, zB, zC, zD, zE, zF, reduceBEq, reduceCtorEq, zG, zH, zI, zJ, zK, dcells, okc]
  have hv : vcode m pc (cop m op) = 0 := by simp only [vcode, h0, h3, cond_true]
  have hL : varsL m op pc = (s.operands.foldl (vStep m op pc) (0, [])).2 ++ [⟨strK [112, 99], m.address, pc⟩] := by simp only [varsL, hs]
  rw [hv, if_pos rfl, hL]
  obtain ⟨f3, f4⟩ := f2 s (List.mem_of_getElem? hs)
  have hml := maxLen_ge
  simp -dsimp only [runE, run_eq, ir5, Mc.d, Mo.d, Ins.d, hO, eO, h0, hK, eK, hmask, h3, hge, hs, EVs, ↓EVd, ↓reduceIte, zA, zB, zC, zD, zE, zF, reduceBEq, reduceCtorEq, zG, zH, zI, zJ, zK, dcells, okc]
  generalize hI : iter _ _ _ _ = I
  revert I
  refine iter_all s.operands (fun j a => ⟨[(2, .v (.int .u64 pc)), (3, .ptr 0 0), (4, .ptr 1 0), (9, .v (.int .u64 (mskI m.address))), (10, .own 2 a.2.length), (32, .lst false (s.operands.map Opn.d)), (33, .v (.int .i64 s.operands.length)), (34, .v (.int .i64 j))], [(2, .row 3 (a.2.map Bn.d)), (1, .box op.d), (0, .box m.d)], 3⟩) (vStep m op pc) (fun j a => a.1 = j ∧ a.2.length ≤ j) (0, []) (by omega) hN ?_ ⟨rfl, Nat.le_refl _⟩ ?_ ?_
  · simp -dsimp only [Mc.d, Mo.d, Ins.d, EVs, ↓EVd, ↓reduceIte, zA, zB, zC, zD, zE, zF, reduceBEq, reduceCtorEq, zG, zH, zI, zJ, zK, dcells, okc]
  · rintro j ⟨a, l⟩ o hj hjw ho ⟨ha1, ha2⟩
    simp only at ha1 ha2
    subst ha1
    have hil := (List.getElem?_eq_some_iff.1 ho).1
    obtain ⟨n, hn⟩ := args_at hlen ho
    have hb' : decide ((l.length + 1) * 32 ≤ 140737488355328) = true := decide_eq_true (by omega)
    obtain ⟨b1, b2⟩ := @bits_m m ha hwd pc n t4
    refine ⟨?_, rfl, ?_⟩
    · by_cases hk : o.kind = 1
      · have hk' : decide (o.kind = 1) = true := decide_eq_true hk
        have hst : vStep m op pc (a, l) o = (a + 1, l) := by simp only [vStep, if_pos hk]
        rw [hst]
        simp -dsimp only [lp5x0, Mc.d, Mo.d, Ins.d, Opn.d, iD, hj, hjw, ho, hn, hk', EVs, ↓EVd, ↓reduceIte, zA, zB, zC, zD, zE, zF, reduceBEq, reduceCtorEq, zG, zH, zI, zJ, zK, dcells, okc]
      · have hk' : decide (o.kind = 1) = false := decide_eq_false hk
        by_cases h4 : o.kind = 4
        · have h4' : decide (o.kind = 4) = true := decide_eq_true h4
          have hst : vStep m op pc (a, l) o = (a + 1, l ++ [⟨o.name, m.address, (pc + m.word * (n + 1)) % p2 m.address.toNat⟩]) := by simp only [vStep, if_neg hk, vB, vN, if_pos h4, hn, Option.getD_some]
          rw [hst]
          simp -dsimp only [lp5x0, Mc.d, Mo.d, Ins.d, Opn.d, iD, hj, hjw, ho, hn, hk', h4', foldU, b1, layd, hb', Bn.d, List.length_append, List.map_append, Nat.reduceMul, EVs, ↓EVd, ↓reduceIte, zA, zB, zC, zD, zE, zF, reduceBEq, reduceCtorEq, zG, zH, zI, zJ, zK, dcells, okc]
        · have h4' : decide (o.kind = 4) = false := decide_eq_false h4
          have hst : vStep m op pc (a, l) o = (a + 1, l ++ [⟨o.name, m.address, n % p2 m.address.toNat⟩]) := by simp only [vStep, if_neg hk, vB, vN, if_neg h4, hn, Option.getD_some]
          rw [hst]
          simp -dsimp only [lp5x0, Mc.d, Mo.d, Ins.d, Opn.d, iD, hj, hjw, ho, hn, hk', h4', foldU, b2, layd, hb', Bn.d, List.length_append, List.map_append, Nat.reduceMul, EVs, ↓EVd, ↓reduceIte, zA, zB, zC, zD, zE, zF, reduceBEq, reduceCtorEq, zG, zH, zI, zJ, zK, dcells, okc]
    · unfold vStep
      simp only
      split
      · omega
      · simp only [List.length_append, List.length_singleton]; omega
  · rintro ⟨ha1, ha2⟩
    have hb' : decide (((s.operands.foldl (vStep m op pc) (0, [])).2.length + 1) * 32 ≤ 140737488355328) = true := decide_eq_true (by omega)
    simp -dsimp only [lp5x0, Mc.d, Mo.d, Ins.d, layd, strK_d, hb', Bn.d, List.length_append, List.map_append, Nat.reduceMul, EVs, ↓EVd, ↓reduceIte, zA, zB, zC, zD, zE, zF, reduceBEq, reduceCtorEq, zG, zH, zI, zJ, zK, dcells, okc]
end Go.Proofs.Dv
set_option linter.unusedVariables false
set_option linter.unusedSimpArgs false
set_option maxRecDepth 100000
namespace Go.Proofs.Dv
open Go.RowKit
open Nat renaming reduceEqDiff → zA, reduceAdd → zB, reduceSub → zC, reduceLeDiff → zD, reduceLT → zE, reduceMul → zF
open Int renaming reduceToNat → zG, reduceLE → zH, reduceLT → zI
open List renaming set_cons_zero → zJ, set_cons_succ → zK
theorem tmod2 {n p : Int} (hp : 0 < p) : 0 ≤ n.tmod p + p ∧ n.tmod p + p ≤ 2 * p ∧ (n.tmod p + p).tmod p = n % p := by
  have h1 := Int.tmod_lt_of_pos n hp
  have h2 : -p < n.tmod p := by
    rcases Int.le_total 0 n with h | h
    · have := Int.tmod_nonneg p h; omega
    · have h3 := Int.tmod_lt_of_pos (-n) hp
      rw [Int.neg_tmod] at h3; omega
  refine ⟨by omega, by omega, ?_⟩
  rw [Int.tmod_eq_emod_of_nonneg (by omega), Int.add_emod_right, Int.tmod_def, Int.sub_mul_emod_self_left]
def x_Mdl (a : Int × Int) : List D := match a with | (n, a) => [.v (.int .i64 n), .v (.int .i64 a)]
theorem i_Mdl : ∀ a b, x_Mdl a = x_Mdl b → a = b := by
  rintro ⟨n, a⟩ ⟨n', a'⟩ h
  first | simpa [x_Mdl, INJ, and_assoc, Int.ofNat_inj] using h | (simp [x_Mdl, INJ, and_assoc, Int.ofNat_inj] at h; simp_all)
open Classical in
noncomputable def s_Mdl : List D → Option D := sOf x_Mdl fun a => match a with | (n, a) => if ((a = 16 ∨ a = 32) ∧ -4611686018427387904 ≤ n ∧ n ≤ 4611686018427387904) then some (.v (.int .u64 (n % p2 a.toNat))) else none
theorem e_Mdl {n : Int} {a : Int} (hc : ((a = 16 ∨ a = 32) ∧ -4611686018427387904 ≤ n ∧ n ≤ 4611686018427387904)) : s_Mdl [.v (.int .i64 n), .v (.int .i64 a)] = some (.v (.int .u64 (n % p2 a.toNat))) := (sOf_eq i_Mdl (n, a)).trans (if_pos hc)
theorem R_Mdl {C : Ctx} {F : IFun} (hspec : ∀ N, maxLen + 10 < N → ∀ (n : Int) (a : Int), lenOK.lenOKs [.v (.int .i64 n), .v (.int .i64 a)] → ((a = 16 ∨ a = 32) ∧ -4611686018427387904 ≤ n ∧ n ≤ 4611686018427387904) → runE C N F [.v (.int .i64 n), .v (.int .i64 a)] = some (.v (.int .u64 (n % p2 a.toNat)))) : Runs C F (s_Mdl) := runs_of i_Mdl fun N hN a r hl hf => by
  obtain ⟨n, a⟩ := a
  simp only [Option.ite_none_right_eq_some, Option.some.injEq] at hf
  obtain ⟨hc, rfl⟩ := hf
  exact hspec N hN n a hl hc
theorem r_Modulo (C : Ctx) (hP : C.T 27 = some s_Pow08) : Runs C ir15 s_Mdl := R_Mdl fun N hN n a hl hc => by
  obtain ⟨ha, h1, h2⟩ := hc
  have eP := @e_Pow08 a ⟨by omega, by omega⟩
  have hb : 0 < p2 a.toNat ∧ p2 a.toNat ≤ 4294967296 := by
    rcases ha with rfl | rfl
    · exact ⟨by decide, by decide⟩
    · exact ⟨by decide, by decide⟩
  obtain ⟨m1, m2, m3⟩ := @tmod2 n _ hb.1
  have g1 : decide (p2 a.toNat = 0) = false := decide_eq_false (by omega)
  have g2 : IntKind.i64.wrap (n.tmod (p2 a.toNat) + p2 a.toNat) = n.tmod (p2 a.toNat) + p2 a.toNat := wr _ (by omega) (by omega)
  have g3 := Int.emod_nonneg n (show p2 a.toNat ≠ 0 by omega)
  have g4 := Int.emod_lt_of_pos n hb.1
  have g5 : IntKind.u64.wrap (n % p2 a.toNat) = n % p2 a.toNat := wu _ g3 (by omega)
  simp -dsimp only [runE, run_eq, ir15, hP, eP, g1, g2, m3, g5, EVs, ↓EVd, ↓reduceIte, zA, zB, zC, zD, zE, zF, reduceBEq, reduceCtorEq, zG, zH, zI, zJ, zK, dcells, okc]
theorem rng_bound {o : Opn} {n : Int} (h : rngB o n = true) (h1 : 0 ≤ o.scale) (h2 : o.scale ≤ 3) (h3 : 1 ≤ fieldOf o.pieces) (h4 : fieldOf o.pieces ≤ 32) : -34359738368 ≤ n ∧ n ≤ 34359738368 := by
  unfold rngB at h
  simp only [Bool.and_eq_true, decide_eq_true_eq] at h
  obtain ⟨hm, hr⟩ := h
  have hd := Int.mul_tdiv_add_tmod n (p2 o.scale.toNat)
  rw [hm] at hd
  have b1 := p2_mono (show (fieldOf o.pieces).toNat ≤ 32 by omega)
  have b2 := p2_mono (show (fieldOf o.pieces - 1).toNat ≤ 32 by omega)
  rw [show p2 32 = 4294967296 from rfl] at b1 b2
  have hq : -4294967296 ≤ n.tdiv (p2 o.scale.toNat) ∧ n.tdiv (p2 o.scale.toNat) ≤ 4294967296 := by
    split at hr
    · have := inB_iff.1 hr; omega
    · have := inB_iff.1 hr; omega
  generalize n.tdiv (p2 o.scale.toNat) = q at *
  have hs : o.scale = 0 ∨ o.scale = 1 ∨ o.scale = 2 ∨ o.scale = 3 := by omega
  have e0 : p2 (0 : Int).toNat = 1 := rfl
  have e1 : p2 (1 : Int).toNat = 2 := rfl
  have e2 : p2 (2 : Int).toNat = 4 := rfl
  have e3 : p2 (3 : Int).toNat = 8 := rfl
  rcases hs with e | e | e | e <;> rw [e] at hd <;> simp only [e0, e1, e2, e3] at hd <;> omega
def x_VarsRv (a : Mc × Mo × Int) : List D := match a with | (m, op, pc) => [.agg m.d, .agg op.d, .v (.int .u64 pc)]
theorem i_VarsRv : ∀ a b, x_VarsRv a = x_VarsRv b → a = b := by
  rintro ⟨m, op, pc⟩ ⟨m', op', pc'⟩ h
  first | simpa [x_VarsRv, INJ, and_assoc, Int.ofNat_inj] using h | (simp [x_VarsRv, INJ, and_assoc, Int.ofNat_inj] at h; simp_all)
open Classical in
noncomputable def s_VarsRv : List D → Option D := sOf x_VarsRv fun a => match a with | (m, op, pc) => if (MZ m ∧ (chkR m = 0 → Fine m ∧ (m.address = 16 ∨ m.address = 32) ∧ (1 ≤ m.word ∧ m.word ≤ 4)) ∧ (∀ a ∈ op.args, I64 a) ∧ U64 pc) then some (varsD m op pc (copR m op)) else none
theorem e_VarsRv {m : Mc} {op : Mo} {pc : Int} (hc : (MZ m ∧ (chkR m = 0 → Fine m ∧ (m.address = 16 ∨ m.address = 32) ∧ (1 ≤ m.word ∧ m.word ≤ 4)) ∧ (∀ a ∈ op.args, I64 a) ∧ U64 pc)) : s_VarsRv [.agg m.d, .agg op.d, .v (.int .u64 pc)] = some (varsD m op pc (copR m op)) := (sOf_eq i_VarsRv (m, op, pc)).trans (if_pos hc)
theorem R_VarsRv {C : Ctx} {F : IFun} (hspec : ∀ N, maxLen + 10 < N → ∀ (m : Mc) (op : Mo) (pc : Int), lenOK.lenOKs [.agg m.d, .agg op.d, .v (.int .u64 pc)] → (MZ m ∧ (chkR m = 0 → Fine m ∧ (m.address = 16 ∨ m.address = 32) ∧ (1 ≤ m.word ∧ m.word ≤ 4)) ∧ (∀ a ∈ op.args, I64 a) ∧ U64 pc) → runE C N F [.agg m.d, .agg op.d, .v (.int .u64 pc)] = some (varsD m op pc (copR m op))) : Runs C F (s_VarsRv) := runs_of i_VarsRv fun N hN a r hl hf => by
  obtain ⟨m, op, pc⟩ := a
  simp only [Option.ite_none_right_eq_some, Option.some.injEq] at hf
  obtain ⟨hc, rfl⟩ := hf
  exact hspec N hN m op pc hl hc
set_option maxHeartbeats 2000000 in
theorem r_VarsR (C : Ctx) (hO : C.T 9 = some s_COpR) (hB : C.T 14 = some s_Below) (hM : C.T 15 = some s_Mdl) : Runs C ir6 s_VarsRv := R_VarsRv fun N hN m op pc hl hc => by
  obtain ⟨t1, t2, t3, t4⟩ := hc
  have eO := @e_COpR m op ⟨t1, fun h => (t2 h).1, t3⟩
  simp only [Mc.d, Mo.d] at eO
  unfold varsD
  cases h0 : decide (copR m op = 0)
  · have hv : vcode m pc (copR m op) = copR m op := by simp only [vcode, h0, cond_false]
    rw [hv, if_neg (by simpa using h0)]
    simp -dsimp only [runE, run_eq, ir6, Mc.d, Mo.d, hO, eO, h0, EVs, ↓EVd, ↓reduceIte, zA, zB, zC, zD, zE, zF, reduceBEq, reduceCtorEq, zG, zH, zI, zJ, zK, dcells, okc]
  have h0' : copR m op = 0 := by simpa using h0
  have hm0 : decide (chkR m = 0) = true := by
    cases hh : decide (chkR m = 0) with
    | true => rfl
    | false => simp only [copR, hh, cond_false] at h0'; rw [h0'] at hh; simp at hh
  obtain ⟨⟨f1, f2⟩, ha, hwd⟩ := t2 (by simpa using hm0)
  simp only [copR, hm0, cond_true] at h0'
  obtain ⟨hge, s, hs, hlen, hsu⟩ := suits_ok (by omega) h0'
  have eB := @e_Below pc m.address ⟨t4.1, t4.2, by omega, by omega⟩
  cases h3 : decide (pc < p2 m.address.toNat)
  · have hv : vcode m pc (copR m op) = 24 := by simp only [vcode, h0, h3, cond_true, cond_false]
    rw [hv, if_neg (by omega)]
    simp -dsimp only [runE, run_eq, ir6, Mc.d, Mo.d, hO, eO, h0, hB, eB, h3, Int.reduceEq, EVs, ↓EVd, ↓reduceIte, zA, zB, zC, zD, zE, zF, reduceBEq, reduceCtorEq, zG, zH, zI, zJ, zK, dcells, okc]
  have hv : vcode m pc (copR m op) = 0 := by simp only [vcode, h0, h3, cond_true]
  have hL : varsL m op pc = (s.operands.foldl (vStep m op pc) (0, [])).2 ++ [⟨strK [112, 99], m.address, pc⟩] := by simp only [varsL, hs]
  rw [hv, if_pos rfl, hL]
  obtain ⟨f3, f4⟩ := f2 s (List.mem_of_getElem? hs)
  have hml := maxLen_ge
  have hpc : pc < 4294967296 := by
    simp only [decide_eq_true_eq] at h3
    have e16 : p2 (16 : Int).toNat = 65536 := rfl
    have e32 : p2 (32 : Int).toNat = 4294967296 := rfl
    rcases ha with e | e <;> rw [e] at h3 <;> simp only [e16, e32] at h3 <;> omega
  have hpc0 := t4.1
  simp -dsimp only [runE, run_eq, ir6, Mc.d, Mo.d, Ins.d, hO, eO, h0, hB, eB, h3, hge, hs, EVs, ↓EVd, ↓reduceIte, zA, zB, zC, zD, zE, zF, reduceBEq, reduceCtorEq, zG, zH, zI, zJ, zK, dcells, okc]
  generalize hI : iter _ _ _ _ = I
  revert I
  refine iter_all s.operands (fun j a => ⟨[(2, .v (.int .u64 pc)), (3, .ptr 0 0), (4, .ptr 1 0), (9, .own 2 a.2.length), (10, .ptr 3 0), (11, .v (.int .i64 j))], [(3, .box s.d), (2, .row 3 (a.2.map Bn.d)), (1, .box op.d), (0, .box m.d)], 4⟩) (vStep m op pc) (fun j a => a.1 = j ∧ a.2.length ≤ j) (0, []) (by omega) hN ?_ ⟨rfl, Nat.le_refl _⟩ ?_ ?_
  · simp -dsimp only [Mc.d, Mo.d, Ins.d, EVs, ↓EVd, ↓reduceIte, zA, zB, zC, zD, zE, zF, reduceBEq, reduceCtorEq, zG, zH, zI, zJ, zK, dcells, okc]
  · rintro j ⟨a, l⟩ o hj hjw ho ⟨ha1, ha2⟩
    simp only at ha1 ha2
    subst ha1
    have hil := (List.getElem?_eq_some_iff.1 ho).1
    obtain ⟨n, hn⟩ := args_at hlen ho
    have hb' : decide ((l.length + 1) * 32 ≤ 140737488355328) = true := decide_eq_true (by omega)
    refine ⟨?_, rfl, ?_⟩
    · by_cases hk : o.kind = 1
      · have hk' : decide (o.kind = 1) = true := decide_eq_true hk
        have hst : vStep m op pc (a, l) o = (a + 1, l) := by simp only [vStep, if_pos hk]
        rw [hst]
        simp -dsimp only [lp6x0, Mc.d, Mo.d, Ins.d, Opn.d, iD, hj, hjw, ho, hn, hk', EVs, ↓EVd, ↓reduceIte, zA, zB, zC, zD, zE, zF, reduceBEq, reduceCtorEq, zG, zH, zI, zJ, zK, dcells, okc]
      · have hk' : decide (o.kind = 1) = false := decide_eq_false hk
        obtain ⟨r1, r2, r3, r4⟩ := (f4 o (List.mem_of_getElem? ho)).2 hk
        have hsq := hsu a o ho
        have hrg : rngB o n = true := by
          simp only [suitAt, if_neg hk, hn, Option.getD_some] at hsq
          cases hr : rngB o n with
          | true => rfl
          | false => rw [hr] at hsq; simp at hsq
        obtain ⟨n1, n2⟩ := rng_bound hrg r1 r2 r3 r4
        by_cases h4 : o.kind = 4
        · have h4' : decide (o.kind = 4) = true := decide_eq_true h4
          have hst : vStep m op pc (a, l) o = (a + 1, l ++ [⟨o.name, m.address, (pc + m.word * (n + 1)) % p2 m.address.toNat⟩]) := by simp only [vStep, if_neg hk, vB, vN, if_pos h4, hn, Option.getD_some]
          rw [hst]
          have w1 : IntKind.i64.wrap pc = pc := wr _ (by omega) (by omega)
          have w2 : IntKind.i64.wrap (pc + m.word) = pc + m.word := wr _ (by omega) (by omega)
          have hm : m.word = 1 ∨ m.word = 2 ∨ m.word = 3 ∨ m.word = 4 := by omega
          have w3 : IntKind.i64.wrap (m.word * n) = m.word * n := by rcases hm with e | e | e | e <;> rw [e] <;> exact wr _ (by omega) (by omega)
          have w4 : IntKind.i64.wrap (pc + m.word + m.word * n) = pc + m.word * (n + 1) := by
            rw [Int.mul_add, Int.mul_one, wr]
            · omega
            · rcases hm with e | e | e | e <;> rw [e] <;> omega
            · rcases hm with e | e | e | e <;> rw [e] <;> omega
          have eM := @e_Mdl (pc + m.word * (n + 1)) m.address ⟨ha, by rcases hm with e | e | e | e <;> rw [e] <;> omega, by rcases hm with e | e | e | e <;> rw [e] <;> omega⟩
          simp -dsimp only [lp6x0, Mc.d, Mo.d, Ins.d, Opn.d, iD, hj, hjw, ho, hn, hk', h4', w1, w2, w3, w4, hM, eM, layd, hb', Bn.d, List.length_append, List.map_append, Nat.reduceMul, EVs, ↓EVd, ↓reduceIte, zA, zB, zC, zD, zE, zF, reduceBEq, reduceCtorEq, zG, zH, zI, zJ, zK, dcells, okc]
        · have h4' : decide (o.kind = 4) = false := decide_eq_false h4
          have hst : vStep m op pc (a, l) o = (a + 1, l ++ [⟨o.name, m.address, n % p2 m.address.toNat⟩]) := by simp only [vStep, if_neg hk, vB, vN, if_neg h4, hn, Option.getD_some]
          rw [hst]
          have eM := @e_Mdl n m.address ⟨ha, by omega, by omega⟩
          simp -dsimp only [lp6x0, Mc.d, Mo.d, Ins.d, Opn.d, iD, hj, hjw, ho, hn, hk', h4', hM, eM, layd, hb', Bn.d, List.length_append, List.map_append, Nat.reduceMul, EVs, ↓EVd, ↓reduceIte, zA, zB, zC, zD, zE, zF, reduceBEq, reduceCtorEq, zG, zH, zI, zJ, zK, dcells, okc]
    · unfold vStep
      simp only
      split
      · omega
      · simp only [List.length_append, List.length_singleton]; omega
  · rintro ⟨ha1, ha2⟩
    have hb' : decide (((s.operands.foldl (vStep m op pc) (0, [])).2.length + 1) * 32 ≤ 140737488355328) = true := decide_eq_true (by omega)
    simp -dsimp only [lp6x0, Mc.d, Mo.d, Ins.d, layd, strK_d, hb', Bn.d, List.length_append, List.map_append, Nat.reduceMul, EVs, ↓EVd, ↓reduceIte, zA, zB, zC, zD, zE, zF, reduceBEq, reduceCtorEq, zG, zH, zI, zJ, zK, dcells, okc]
end Go.Proofs.Dv
set_option linter.unusedVariables false
set_option linter.unusedSimpArgs false
set_option maxRecDepth 100000
namespace Go.Proofs.Dv
open Go.RowKit
open Nat renaming reduceEqDiff → zA, reduceAdd → zB, reduceSub → zC, reduceLeDiff → zD, reduceLT → zE, reduceMul → zF
open Int renaming reduceToNat → zG, reduceLE → zH, reduceLT → zI
open List renaming set_cons_zero → zJ, set_cons_succ → zK
def x_SameB (a : Bool × Bool × (List Bn)) : List D := match a with | (b, c, l) => [.lst b (l.map Bn.d), .lst c (l.map Bn.d)]
theorem i_SameB : ∀ a b, x_SameB a = x_SameB b → a = b := by
  rintro ⟨b, c, l⟩ ⟨b', c', l'⟩ h
  first | simpa [x_SameB, INJ, and_assoc, Int.ofNat_inj] using h | (simp [x_SameB, INJ, and_assoc, Int.ofNat_inj] at h; simp_all)
noncomputable def s_SameB : List D → Option D := sOf x_SameB fun a => match a with | (b, c, l) => some (.v (.bool true))
theorem e_SameB {b : Bool} {c : Bool} {l : List Bn} : s_SameB [.lst b (l.map Bn.d), .lst c (l.map Bn.d)] = some (.v (.bool true)) := sOf_eq i_SameB (b, c, l)
theorem R_SameB {C : Ctx} {F : IFun} (hspec : ∀ N, maxLen + 10 < N → ∀ (b : Bool) (c : Bool) (l : List Bn), lenOK.lenOKs [.lst b (l.map Bn.d), .lst c (l.map Bn.d)] → runE C N F [.lst b (l.map Bn.d), .lst c (l.map Bn.d)] = some (.v (.bool true))) : Runs C F s_SameB := runs_of i_SameB fun N hN a r hl hf => by
  obtain ⟨b, c, l⟩ := a
  simp only [Option.some.injEq] at hf
  subst hf
  exact hspec N hN b c l hl
theorem bn_neq {s : ByteArray} {w x : Int} : evBi .neq (.ag [true, false, false]) (.agg [.v (.string s), .v (.int .i64 w), .v (.int .u64 x)]) (.agg [.v (.string s), .v (.int .i64 w), .v (.int .u64 x)]) = some (.v (.bool false)) := by
  have h : (s == s) = true := by rw [bab]; simp
  simp [evBi, eqCells, h]
theorem r_SameBound (C : Ctx) : Runs C ir7 s_SameB := R_SameB fun N hN b c l hl => by
  have hll : l.length ≤ maxLen := by simp only [EVl, List.length_map] at hl; exact hl.1.1
  simp -dsimp only [runE, run_eq, ir7, EVs, ↓EVd, ↓reduceIte, zA, zB, zC, zD, zE, zF, reduceBEq, reduceCtorEq, zG, zH, zI, zJ, zK, dcells, okc]
  generalize hI : iter _ _ _ _ = I
  revert I
  refine iter_all l (fun j _ => ⟨[(0, .lst b (l.map Bn.d)), (1, .lst c (l.map Bn.d)), (5, .v (.int .i64 j))], [], 0⟩) (fun (_ : Unit) _ => ()) (fun _ _ => True) () hll hN ?_ trivial ?_ ?_
  · simp -dsimp only [EVs, ↓EVd, ↓reduceIte, zA, zB, zC, zD, zE, zF, reduceBEq, reduceCtorEq, zG, zH, zI, zJ, zK, dcells, okc]
  · intro j _ x hj hjw hx _
    refine ⟨?_, trivial⟩
    simp -dsimp only [lp7x0, hj, hjw, hx, Bn.d, bn_neq, EVs, ↓EVd, ↓reduceIte, zA, zB, zC, zD, zE, zF, reduceBEq, reduceCtorEq, zG, zH, zI, zJ, zK, dcells, okc]
  · intro _
    simp -dsimp only [lp7x0, EVs, ↓EVd, ↓reduceIte, zA, zB, zC, zD, zE, zF, reduceBEq, reduceCtorEq, zG, zH, zI, zJ, zK, dcells, okc]
def x_SameI (a : Bool × Bool × (List Int)) : List D := match a with | (b, c, l) => [.lst b (l.map iD), .lst c (l.map iD)]
theorem i_SameI : ∀ a b, x_SameI a = x_SameI b → a = b := by
  rintro ⟨b, c, l⟩ ⟨b', c', l'⟩ h
  first | simpa [x_SameI, INJ, and_assoc, Int.ofNat_inj] using h | (simp [x_SameI, INJ, and_assoc, Int.ofNat_inj] at h; simp_all)
noncomputable def s_SameI : List D → Option D := sOf x_SameI fun a => match a with | (b, c, l) => some (.v (.bool true))
theorem e_SameI {b : Bool} {c : Bool} {l : List Int} : s_SameI [.lst b (l.map iD), .lst c (l.map iD)] = some (.v (.bool true)) := sOf_eq i_SameI (b, c, l)
theorem R_SameI {C : Ctx} {F : IFun} (hspec : ∀ N, maxLen + 10 < N → ∀ (b : Bool) (c : Bool) (l : List Int), lenOK.lenOKs [.lst b (l.map iD), .lst c (l.map iD)] → runE C N F [.lst b (l.map iD), .lst c (l.map iD)] = some (.v (.bool true))) : Runs C F s_SameI := runs_of i_SameI fun N hN a r hl hf => by
  obtain ⟨b, c, l⟩ := a
  simp only [Option.some.injEq] at hf
  subst hf
  exact hspec N hN b c l hl
theorem r_sameInts (C : Ctx) : Runs C ir22 s_SameI := R_SameI fun N hN b c l hl => by
  have hll : l.length ≤ maxLen := by simp only [EVl, List.length_map] at hl; exact hl.1.1
  simp -dsimp only [runE, run_eq, ir22, EVs, ↓EVd, ↓reduceIte, zA, zB, zC, zD, zE, zF, reduceBEq, reduceCtorEq, zG, zH, zI, zJ, zK, dcells, okc]
  generalize hI : iter _ _ _ _ = I
  revert I
  refine iter_all l (fun j _ => ⟨[(0, .lst b (l.map iD)), (1, .lst c (l.map iD)), (5, .v (.int .i64 j))], [], 0⟩) (fun (_ : Unit) _ => ()) (fun _ _ => True) () hll hN ?_ trivial ?_ ?_
  · simp -dsimp only [EVs, ↓EVd, ↓reduceIte, zA, zB, zC, zD, zE, zF, reduceBEq, reduceCtorEq, zG, zH, zI, zJ, zK, dcells, okc]
  · intro j _ x hj hjw hx _
    refine ⟨?_, trivial⟩
    have hd : decide (x = x) = true := decide_eq_true rfl
    simp -dsimp only [lp22x0, hj, hjw, hx, iD, hd, EVs, ↓EVd, ↓reduceIte, zA, zB, zC, zD, zE, zF, reduceBEq, reduceCtorEq, zG, zH, zI, zJ, zK, dcells, okc]
  · intro _
    simp -dsimp only [lp22x0, EVs, ↓EVd, ↓reduceIte, zA, zB, zC, zD, zE, zF, reduceBEq, reduceCtorEq, zG, zH, zI, zJ, zK, dcells, okc]
def x_SameO (a : Mo) : List D := match a with | op => [.agg op.d, .agg op.d]
theorem i_SameO : ∀ a b, x_SameO a = x_SameO b → a = b := by
  rintro op op' h
  first | simpa [x_SameO, INJ, and_assoc, Int.ofNat_inj] using h | (simp [x_SameO, INJ, and_assoc, Int.ofNat_inj] at h; simp_all)
noncomputable def s_SameO : List D → Option D := sOf x_SameO fun a => match a with | op => some (.v (.bool true))
theorem e_SameO {op : Mo} : s_SameO [.agg op.d, .agg op.d] = some (.v (.bool true)) := sOf_eq i_SameO op
theorem R_SameO {C : Ctx} {F : IFun} (hspec : ∀ N, maxLen + 10 < N → ∀ (op : Mo), lenOK.lenOKs [.agg op.d, .agg op.d] → runE C N F [.agg op.d, .agg op.d] = some (.v (.bool true))) : Runs C F s_SameO := runs_of i_SameO fun N hN op r hl hf => by
  simp only [Option.some.injEq] at hf
  subst hf
  exact hspec N hN op hl
theorem r_SameOp (C : Ctx) (hI : C.T 22 = some s_SameI) : Runs C ir10 s_SameO := R_SameO fun N hN op hl => by
  have e := @e_SameI false false op.args
  have hd : decide (op.instr = op.instr) = true := decide_eq_true rfl
  simp -dsimp only [runE, run_eq, ir10, Mo.d, hI, e, hd, EVs, ↓EVd, ↓reduceIte, zA, zB, zC, zD, zE, zF, reduceBEq, reduceCtorEq, zG, zH, zI, zJ, zK, dcells, okc]
def efN (e : Ef) : Int := (e.addr.size : Int) + (e.value.size : Int) + (e.cond.size : Int)
def insN (i : Ins) : Int := (i.effects.map efN).sum
def nodesM (m : Mc) : Int := (m.instrs.map insN).sum
def SmT (m : Mc) : Prop := m.instrs.length ≤ 100 ∧ ∀ i ∈ m.instrs, i.effects.length ≤ 100 ∧ ∀ e ∈ i.effects, (e.addr.size ≤ 500 ∧ e.addr.depth ≤ 80) ∧ (e.value.size ≤ 500 ∧ e.value.depth ≤ 80) ∧ (e.cond.size ≤ 500 ∧ e.cond.depth ≤ 80)
def x_NodesM (a : Mc) : List D := match a with | m => [.agg m.d]
theorem i_NodesM : ∀ a b, x_NodesM a = x_NodesM b → a = b := by
  rintro m m' h
  first | simpa [x_NodesM, INJ, and_assoc, Int.ofNat_inj] using h | (simp [x_NodesM, INJ, and_assoc, Int.ofNat_inj] at h; simp_all)
open Classical in
noncomputable def s_NodesM : List D → Option D := sOf x_NodesM fun a => match a with | m => if (SmT m) then some (.v (.int .i64 (nodesM m))) else none
theorem e_NodesM {m : Mc} (hc : (SmT m)) : s_NodesM [.agg m.d] = some (.v (.int .i64 (nodesM m))) := (sOf_eq i_NodesM m).trans (if_pos hc)
theorem R_NodesM {C : Ctx} {F : IFun} (hspec : ∀ N, maxLen + 10 < N → ∀ (m : Mc), lenOK.lenOKs [.agg m.d] → (SmT m) → runE C N F [.agg m.d] = some (.v (.int .i64 (nodesM m)))) : Runs C F (s_NodesM) := runs_of i_NodesM fun N hN m r hl hf => by
  simp only [Option.ite_none_right_eq_some, Option.some.injEq] at hf
  obtain ⟨hc, rfl⟩ := hf
  exact hspec N hN m hl hc
theorem lp_nodes (C : Ctx) (N : Nat) (hN : maxLen + 10 < N) (hS : C.T 25 = some (s_Siz 80)) (m : Mc) (k : Nat) (i : Ins) (hk : m.instrs[k]? = some i) (hi : i.effects.length ≤ 100 ∧ ∀ e ∈ i.effects, (e.addr.size ≤ 500 ∧ e.addr.depth ≤ 80) ∧ (e.value.size ≤ 500 ∧ e.value.depth ≤ 80) ∧ (e.cond.size ≤ 500 ∧ e.cond.depth ≤ 80)) (n : Int) (hn0 : 0 ≤ n) (hn1 : n ≤ 100000000) {β : Type} {K : Option (Ex × St) → Option β} {r : β} {σ : St}
    (h0 : trim [1, 3, 4, 5] 1 σ = some ⟨[(1, .ptr 0 0), (3, .v (.int .i64 n)), (4, .v (.int .i64 k)), (5, .v (.int .i64 ((0 : Nat) : Int)))], [(0, .box m.d)], 1⟩)
    (hK : outK K (ev C N lp12x0 ⟨[(1, .ptr 0 0), (3, .v (.int .i64 (n + insN i))), (4, .v (.int .i64 k)), (5, .v (.int .i64 i.effects.length))], [(0, .box m.d)], 1⟩) = some r) : ∀ I, iter (ev C N lp12x0) (trim [1, 3, 4, 5] 1) N σ = I → K I = some r := by
  have hml := maxLen_ge
  have hfold : ∀ (l : List Ef) (a : Int), l.foldl (fun a e => a + efN e) a = a + (l.map efN).sum := by
    intro l
    induction l with
    | nil => intro a; simp
    | cons e l ih => intro a; rw [List.foldl_cons, ih, List.map_cons, List.sum_cons, Int.add_assoc]
  refine iter_all i.effects (fun j a => ⟨[(1, .ptr 0 0), (3, .v (.int .i64 a)), (4, .v (.int .i64 k)), (5, .v (.int .i64 j))], [(0, .box m.d)], 1⟩) (fun a e => a + efN e) (fun j a => n ≤ a ∧ a ≤ n + 1500 * j) n (by omega) hN h0 ⟨Int.le_refl _, by omega⟩ ?_ ?_
  · rintro j a e hj hjw he ⟨ha1, ha2⟩
    have hil := (List.getElem?_eq_some_iff.1 he).1
    obtain ⟨⟨x1, x2⟩, ⟨y1, y2⟩, z1, z2⟩ := hi.2 e (List.mem_of_getElem? he)
    have s1 := @e_Siz 80 e.addr ⟨x2, by omega⟩
    have s2 := @e_Siz 80 e.value ⟨y2, by omega⟩
    have s3 := @e_Siz 80 e.cond ⟨z2, by omega⟩
    simp only [T.d_eq] at s1 s2 s3
    have hkk : decide (0 ≤ (k : Int)) = true := decide_eq_true (by omega)
    have w1 : IntKind.i64.wrap ((e.addr.size : Int) + (e.value.size : Int)) = (e.addr.size : Int) + (e.value.size : Int) := wr _ (by omega) (by omega)
    have w2 : IntKind.i64.wrap ((e.addr.size : Int) + (e.value.size : Int) + (e.cond.size : Int)) = efN e := wr _ (by omega) (by omega)
    have hef : 0 ≤ efN e ∧ efN e ≤ 1500 := by unfold efN; omega
    have w3 : IntKind.i64.wrap (a + efN e) = a + efN e := wr _ (by omega) (by omega)
    refine ⟨?_, by omega, by omega⟩
    simp -dsimp only [lp12x0, Mc.d, Ins.d, Ef.d, T.d_eq, hj, hjw, he, hk, hkk, hS, s1, s2, s3, w1, w2, w3, EVs, ↓EVd, ↓reduceIte, zA, zB, zC, zD, zE, zF, reduceBEq, reduceCtorEq, zG, zH, zI, zJ, zK, dcells, okc]
  · rintro _
    rw [hfold]
    exact hK
theorem r_Nodes (C : Ctx) (hS : C.T 25 = some (s_Siz 80)) : Runs C ir12 s_NodesM := R_NodesM fun N hN m hl hc => by
  obtain ⟨c1, c2⟩ := hc
  have hml := maxLen_ge
  simp -dsimp only [runE, run_eq, ir12, Mc.d, EVs, ↓EVd, ↓reduceIte, zA, zB, zC, zD, zE, zF, reduceBEq, reduceCtorEq, zG, zH, zI, zJ, zK, dcells, okc]
  generalize hI : iter _ _ _ _ = I
  revert I
  have hfold : ∀ (l : List Ins) (a : Int), l.foldl (fun a e => a + insN e) a = a + (l.map insN).sum := by
    intro l
    induction l with
    | nil => intro a; simp
    | cons e l ih => intro a; rw [List.foldl_cons, ih, List.map_cons, List.sum_cons, Int.add_assoc]
  have hins : ∀ i ∈ m.instrs, 0 ≤ insN i ∧ insN i ≤ 150000 := by
    intro i hi
    obtain ⟨d1, d2⟩ := c2 i hi
    have : ∀ l : List Ef, (∀ e ∈ l, e ∈ i.effects) → 0 ≤ (l.map efN).sum ∧ (l.map efN).sum ≤ 1500 * l.length := by
      intro l
      induction l with
      | nil => intro _; simp
      | cons e l ih =>
        intro h
        have h1 := ih fun x hx => h x (List.mem_cons_of_mem _ hx)
        obtain ⟨⟨x1, x2⟩, ⟨y1, y2⟩, z1, z2⟩ := d2 e (h e List.mem_cons_self)
        have hef : 0 ≤ efN e ∧ efN e ≤ 1500 := by unfold efN; omega
        rw [List.map_cons, List.sum_cons, List.length_cons]
        omega
    have := this i.effects fun _ h => h
    unfold insN
    omega
  have e0 : nodesM m = m.instrs.foldl (fun a e => a + insN e) 0 := by rw [hfold, Int.zero_add]; rfl
  rw [e0]
  refine iter_all m.instrs (fun j a => ⟨[(1, .ptr 0 0), (3, .v (.int .i64 a)), (4, .v (.int .i64 j))], [(0, .box m.d)], 1⟩) (fun a i => a + insN i) (fun j a => 0 ≤ a ∧ a ≤ 150000 * j) 0 (by omega) hN ?_ ⟨Int.le_refl _, by omega⟩ ?_ ?_
  · simp -dsimp only [Mc.d, EVs, ↓EVd, ↓reduceIte, zA, zB, zC, zD, zE, zF, reduceBEq, reduceCtorEq, zG, zH, zI, zJ, zK, dcells, okc]
  · rintro j a i hj hjw hi ⟨ha1, ha2⟩
    have hil := (List.getElem?_eq_some_iff.1 hi).1
    have hb := hins i (List.mem_of_getElem? hi)
    refine ⟨?_, by omega, by omega⟩
    simp -dsimp only [lp12x1, Mc.d, hj, hi, EVs, ↓EVd, ↓reduceIte, zA, zB, zC, zD, zE, zF, reduceBEq, reduceCtorEq, zG, zH, zI, zJ, zK, dcells, okc]
    generalize hL : iter _ _ _ _ = L
    revert L
    refine lp_nodes C N hN hS m j i hi (c2 i (List.mem_of_getElem? hi)) a ha1 (by omega) ?_ ?_
    · simp -dsimp only [Mc.d, EVs, ↓EVd, ↓reduceIte, zA, zB, zC, zD, zE, zF, reduceBEq, reduceCtorEq, zG, zH, zI, zJ, zK, dcells, okc]
    · simp -dsimp only [lp12x0, Mc.d, Ins.d, hi, hjw, EVs, ↓EVd, ↓reduceIte, zA, zB, zC, zD, zE, zF, reduceBEq, reduceCtorEq, zG, zH, zI, zJ, zK, dcells, okc]
  · intro _
    simp -dsimp only [lp12x1, Mc.d, EVs, ↓EVd, ↓reduceIte, zA, zB, zC, zD, zE, zF, reduceBEq, reduceCtorEq, zG, zH, zI, zJ, zK, dcells, okc]
end Go.Proofs.Dv
set_option linter.unusedVariables false
set_option linter.unusedSimpArgs false
set_option maxRecDepth 100000
namespace Go.Proofs.Dv
open Go.RowKit
open Nat renaming reduceEqDiff → zA, reduceAdd → zB, reduceSub → zC, reduceLeDiff → zD, reduceLT → zE, reduceMul → zF
open Int renaming reduceToNat → zG, reduceLE → zH, reduceLT → zI
open List renaming set_cons_zero → zJ, set_cons_succ → zK
def gb1 (b : Bk) : Bool := decide ((74 : Int) < (b.regs.length : Int)) || decide ((100 : Int) < (b.name.size : Int))
def go1 (o : Opn) : Bool := decide ((14 : Int) < (o.pieces.length : Int)) || decide ((100 : Int) < (o.name.size : Int))
def ge1 (e : Ef) : Bool := (greatT e.addr || greatT e.value) || greatT e.cond
def gi1 (i : Ins) : Bool := (decide ((14 : Int) < (i.operands.length : Int)) || decide ((14 : Int) < (i.effects.length : Int))) || decide ((100 : Int) < (i.name.size : Int))
def giOK (i : Ins) : Bool := !gi1 i && (i.operands.all (fun o => !go1 o) && i.effects.all (fun e => !ge1 e))
def gHead (m : Mc) : Bool := ((((decide ((100 : Int) < (m.name.size : Int)) || decide ((74 : Int) < (m.regs.length : Int))) || decide ((26 : Int) < (m.banks.length : Int))) || decide ((18 : Int) < (m.units.length : Int))) || decide ((74 : Int) < (m.instrs.length : Int)))
def greatM (m : Mc) : Bool := bif gHead m then true else bif !m.banks.all (fun b => !gb1 b) then true else bif !m.instrs.all giOK then true else decide ((1500 : Int) < nodesM m)
theorem giOK_sm {m : Mc} (h1 : gHead m = false) (h2 : m.instrs.all giOK = true) : SmT m := by
  simp only [gHead, Bool.or_eq_false_iff, decide_eq_false_iff_not] at h1
  refine ⟨by omega, fun i hi => ?_⟩
  have h3 := List.all_eq_true.1 h2 i hi
  simp only [giOK, gi1, Bool.and_eq_true, Bool.not_eq_true', Bool.or_eq_false_iff, decide_eq_false_iff_not, List.all_eq_true] at h3
  refine ⟨by omega, fun e he => ?_⟩
  have h4 := h3.2.2 e he
  simp only [ge1, Bool.or_eq_false_iff] at h4
  obtain ⟨⟨a1, a2⟩, a3⟩ := h4
  have a1 := great_small a1
  have a2 := great_small a2
  have a3 := great_small a3
  exact ⟨⟨a1.2.1, a1.1⟩, ⟨a2.2.1, a2.1⟩, a3.2.1, a3.1⟩
theorem lp4o (C : Ctx) (N : Nat) (hN : maxLen + 10 < N) (m : Mc) (s : Ins) (i : Nat) (hl : s.operands.length ≤ maxLen) {σ : St} {J : Option (Ex × St)} (hJ : iter (ev C N lp4x1) (trim [1, 4, 5, 6] 2) N σ = J)
    (h0 : trim [1, 4, 5, 6] 2 σ = some ⟨[(1, .ptr 0 0), (4, .v (.int .i64 i)), (5, .ptr 1 0), (6, .v (.int .i64 ((0 : Nat) : Int)))], [(1, .box s.d), (0, .box m.d)], 2⟩) :
    (s.operands.all (fun o => !go1 o) = true → J = some (.ex 4, ⟨[(93, .v (.bool false)), (92, .v (.int .i64 s.operands.length)), (91, .lst false (s.operands.map Opn.d)), (90, .ptr 1 3), (89, .v (.int .i64 s.operands.length)), (1, .ptr 0 0), (4, .v (.int .i64 i)), (5, .ptr 1 0), (6, .v (.int .i64 s.operands.length))], [(1, .box s.d), (0, .box m.d)], 2⟩)) ∧
    (s.operands.all (fun o => !go1 o) = false → ∃ σ', J = some (.rt, σ') ∧ lkf σ'.fr 2 = .v (.bool true)) := by
  have key := rloopJ (d := .v (.bool true)) (ret := 2) (e := 4) hJ s.operands (fun j => ⟨[(1, .ptr 0 0), (4, .v (.int .i64 i)), (5, .ptr 1 0), (6, .v (.int .i64 j))], [(1, .box s.d), (0, .box m.d)], 2⟩) (fun _ o => !go1 o)
    (σe := ⟨[(93, .v (.bool false)), (92, .v (.int .i64 s.operands.length)), (91, .lst false (s.operands.map Opn.d)), (90, .ptr 1 3), (89, .v (.int .i64 s.operands.length)), (1, .ptr 0 0), (4, .v (.int .i64 i)), (5, .ptr 1 0), (6, .v (.int .i64 s.operands.length))], [(1, .box s.d), (0, .box m.d)], 2⟩) hl hN h0 ?_ ?_ (by simp -dsimp only [lp4x1, Ins.d, EVs, ↓EVd, ↓reduceIte, zA, zB, zC, zD, zE, zF, reduceBEq, reduceCtorEq, zG, zH, zI, zJ, zK, dcells, okc])
  · rw [allI_all] at key
    exact key
  · intro j o hj hjw ho hp
    simp only [go1, Bool.not_eq_true', Bool.or_eq_false_iff] at hp
    simp -dsimp only [lp4x1, Mc.d, Ins.d, Opn.d, hj, hjw, ho, hp.1, hp.2, EVs, ↓EVd, ↓reduceIte, zA, zB, zC, zD, zE, zF, reduceBEq, reduceCtorEq, zG, zH, zI, zJ, zK, dcells, okc]
  · intro j o hj ho hp
    simp only [go1, Bool.not_eq_false'] at hp
    cases c1 : decide ((14 : Int) < (o.pieces.length : Int))
    · rw [c1, Bool.false_or] at hp
      simp -dsimp only [EVq, lp4x1, Mc.d, Ins.d, Opn.d, hj, ho, c1, hp, EVs, ↓EVd, ↓reduceIte, zA, zB, zC, zD, zE, zF, reduceBEq, reduceCtorEq, zG, zH, zI, zJ, zK, dcells, okc]
    · simp -dsimp only [EVq, lp4x1, Mc.d, Ins.d, Opn.d, hj, ho, c1, EVs, ↓EVd, ↓reduceIte, zA, zB, zC, zD, zE, zF, reduceBEq, reduceCtorEq, zG, zH, zI, zJ, zK, dcells, okc]
theorem lp4e (C : Ctx) (N : Nat) (hN : maxLen + 10 < N) (hG : C.T 11 = some s_Great02) (m : Mc) (s : Ins) (i : Nat) (hl : s.effects.length ≤ maxLen) {σ : St} {J : Option (Ex × St)} (hJ : iter (ev C N lp4x2) (trim [1, 4, 5, 7] 2) N σ = J)
    (h0 : trim [1, 4, 5, 7] 2 σ = some ⟨[(1, .ptr 0 0), (4, .v (.int .i64 i)), (5, .ptr 1 0), (7, .v (.int .i64 ((0 : Nat) : Int)))], [(1, .box s.d), (0, .box m.d)], 2⟩) :
    (s.effects.all (fun e => !ge1 e) = true → J = some (.ex 6, ⟨[(118, .v (.bool false)), (117, .v (.int .i64 s.effects.length)), (116, .lst false (s.effects.map Ef.d)), (115, .ptr 1 4), (114, .v (.int .i64 s.effects.length)), (1, .ptr 0 0), (4, .v (.int .i64 i)), (5, .ptr 1 0), (7, .v (.int .i64 s.effects.length))], [(1, .box s.d), (0, .box m.d)], 2⟩)) ∧
    (s.effects.all (fun e => !ge1 e) = false → ∃ σ', J = some (.rt, σ') ∧ lkf σ'.fr 2 = .v (.bool true)) := by
  have key := rloopJ (d := .v (.bool true)) (ret := 2) (e := 6) hJ s.effects (fun j => ⟨[(1, .ptr 0 0), (4, .v (.int .i64 i)), (5, .ptr 1 0), (7, .v (.int .i64 j))], [(1, .box s.d), (0, .box m.d)], 2⟩) (fun _ e => !ge1 e)
    (σe := ⟨[(118, .v (.bool false)), (117, .v (.int .i64 s.effects.length)), (116, .lst false (s.effects.map Ef.d)), (115, .ptr 1 4), (114, .v (.int .i64 s.effects.length)), (1, .ptr 0 0), (4, .v (.int .i64 i)), (5, .ptr 1 0), (7, .v (.int .i64 s.effects.length))], [(1, .box s.d), (0, .box m.d)], 2⟩) hl hN h0 ?_ ?_ (by simp -dsimp only [lp4x2, Ins.d, EVs, ↓EVd, ↓reduceIte, zA, zB, zC, zD, zE, zF, reduceBEq, reduceCtorEq, zG, zH, zI, zJ, zK, dcells, okc])
  · rw [allI_all] at key
    exact key
  · intro j e hj hjw he hp
    have g1 := @e_Great02 e.addr
    have g2 := @e_Great02 e.value
    have g3 := @e_Great02 e.cond
    simp only [T.d_eq] at g1 g2 g3
    simp only [ge1, Bool.not_eq_true', Bool.or_eq_false_iff] at hp
    simp -dsimp only [lp4x2, Mc.d, Ins.d, Ef.d, T.d_eq, hj, hjw, he, hG, g1, g2, g3, hp.1.1, hp.1.2, hp.2, EVs, ↓EVd, ↓reduceIte, zA, zB, zC, zD, zE, zF, reduceBEq, reduceCtorEq, zG, zH, zI, zJ, zK, dcells, okc]
  · intro j e hj he hp
    have g1 := @e_Great02 e.addr
    have g2 := @e_Great02 e.value
    have g3 := @e_Great02 e.cond
    simp only [T.d_eq] at g1 g2 g3
    simp only [ge1, Bool.not_eq_false'] at hp
    cases c1 : greatT e.addr
    · cases c2 : greatT e.value
      · rw [c1, c2, Bool.false_or, Bool.false_or] at hp
        simp -dsimp only [EVq, lp4x2, Mc.d, Ins.d, Ef.d, T.d_eq, hj, he, hG, g1, g2, g3, c1, c2, hp, EVs, ↓EVd, ↓reduceIte, zA, zB, zC, zD, zE, zF, reduceBEq, reduceCtorEq, zG, zH, zI, zJ, zK, dcells, okc]
      · simp -dsimp only [EVq, lp4x2, Mc.d, Ins.d, Ef.d, T.d_eq, hj, he, hG, g1, g2, g3, c1, c2, EVs, ↓EVd, ↓reduceIte, zA, zB, zC, zD, zE, zF, reduceBEq, reduceCtorEq, zG, zH, zI, zJ, zK, dcells, okc]
    · simp -dsimp only [EVq, lp4x2, Mc.d, Ins.d, Ef.d, T.d_eq, hj, he, hG, g1, g2, g3, c1, EVs, ↓EVd, ↓reduceIte, zA, zB, zC, zD, zE, zF, reduceBEq, reduceCtorEq, zG, zH, zI, zJ, zK, dcells, okc]
def x_GreatM (a : Mc) : List D := match a with | m => [.agg m.d]
theorem i_GreatM : ∀ a b, x_GreatM a = x_GreatM b → a = b := by
  rintro m m' h
  first | simpa [x_GreatM, INJ, and_assoc, Int.ofNat_inj] using h | (simp [x_GreatM, INJ, and_assoc, Int.ofNat_inj] at h; simp_all)
noncomputable def s_GreatM : List D → Option D := sOf x_GreatM fun a => match a with | m => some (.v (.bool (greatM m)))
theorem e_GreatM {m : Mc} : s_GreatM [.agg m.d] = some (.v (.bool (greatM m))) := sOf_eq i_GreatM m
theorem R_GreatM {C : Ctx} {F : IFun} (hspec : ∀ N, maxLen + 10 < N → ∀ (m : Mc), lenOK.lenOKs [.agg m.d] → runE C N F [.agg m.d] = some (.v (.bool (greatM m)))) : Runs C F s_GreatM := runs_of i_GreatM fun N hN m r hl hf => by
  simp only [Option.some.injEq] at hf
  subst hf
  exact hspec N hN m hl
set_option maxHeartbeats 2000000 in
theorem r_Great8 (C : Ctx) (hG : C.T 11 = some s_Great02) (hNd : C.T 12 = some s_NodesM) : Runs C ir4 s_GreatM := R_GreatM fun N hN m hl => by
  have hlb : m.banks.length ≤ maxLen ∧ m.instrs.length ≤ maxLen := by
    simp only [Mc.d, EVl, List.length_map] at hl
    exact ⟨hl.1.2.2.2.2.1.1, hl.1.2.2.2.2.2.2.1.1⟩
  have hio : ∀ s ∈ m.instrs, s.operands.length ≤ maxLen ∧ s.effects.length ≤ maxLen := by
    intro s hs
    simp only [Mc.d, EVl, List.length_map] at hl
    have := (lenOKss_iff.1 hl.1.2.2.2.2.2.2.1.2) _ (List.mem_map_of_mem hs)
    simp only [Ins.d, EVl, List.length_map] at this
    exact ⟨this.2.2.2.1.1, this.2.2.2.2.1.1⟩
  unfold greatM
  cases q0 : decide ((100 : Int) < (m.name.size : Int))
  case true => simp -dsimp only [runE, run_eq, ir4, Mc.d, gHead, q0, EVs, ↓EVd, ↓reduceIte, zA, zB, zC, zD, zE, zF, reduceBEq, reduceCtorEq, zG, zH, zI, zJ, zK, dcells, okc]
  cases q1 : decide ((74 : Int) < (m.regs.length : Int))
  case true => simp -dsimp only [runE, run_eq, ir4, Mc.d, gHead, q0, q1, EVs, ↓EVd, ↓reduceIte, zA, zB, zC, zD, zE, zF, reduceBEq, reduceCtorEq, zG, zH, zI, zJ, zK, dcells, okc]
  cases q2 : decide ((26 : Int) < (m.banks.length : Int))
  case true => simp -dsimp only [runE, run_eq, ir4, Mc.d, gHead, q0, q1, q2, EVs, ↓EVd, ↓reduceIte, zA, zB, zC, zD, zE, zF, reduceBEq, reduceCtorEq, zG, zH, zI, zJ, zK, dcells, okc]
  cases q3 : decide ((18 : Int) < (m.units.length : Int))
  case true => simp -dsimp only [runE, run_eq, ir4, Mc.d, gHead, q0, q1, q2, q3, EVs, ↓EVd, ↓reduceIte, zA, zB, zC, zD, zE, zF, reduceBEq, reduceCtorEq, zG, zH, zI, zJ, zK, dcells, okc]
  cases q4 : decide ((74 : Int) < (m.instrs.length : Int))
  case true => simp -dsimp only [runE, run_eq, ir4, Mc.d, gHead, q0, q1, q2, q3, q4, EVs, ↓EVd, ↓reduceIte, zA, zB, zC, zD, zE, zF, reduceBEq, reduceCtorEq, zG, zH, zI, zJ, zK, dcells, okc]
  have hh : gHead m = false := by simp only [gHead, q0, q1, q2, q3, q4]; rfl
  rw [hh, cond_false]
  simp -dsimp only [runE, run_eq, ir4, Mc.d, q0, q1, q2, q3, q4, EVs, ↓EVd, ↓reduceIte, zA, zB, zC, zD, zE, zF, reduceBEq, reduceCtorEq, zG, zH, zI, zJ, zK, dcells, okc]
  generalize hI : iter _ _ _ _ = I
  have k1 := rloopJ (d := .v (.bool true)) (ret := 2) (e := 0) hI m.banks (fun j => ⟨[(1, .ptr 0 0), (3, .v (.int .i64 j))], [(0, .box m.d)], 1⟩) (fun _ b => !gb1 b)
    (σe := ⟨[(40, .v (.bool false)), (39, .v (.int .i64 m.banks.length)), (38, .lst false (m.banks.map Bk.d)), (37, .ptr 0 4), (36, .v (.int .i64 m.banks.length)), (1, .ptr 0 0), (3, .v (.int .i64 m.banks.length))], [(0, .box m.d)], 1⟩) hlb.1 hN (by simp -dsimp only [Mc.d, EVs, ↓EVd, ↓reduceIte, zA, zB, zC, zD, zE, zF, reduceBEq, reduceCtorEq, zG, zH, zI, zJ, zK, dcells, okc]) ?_ ?_ (by simp -dsimp only [lp4x0, Mc.d, EVs, ↓EVd, ↓reduceIte, zA, zB, zC, zD, zE, zF, reduceBEq, reduceCtorEq, zG, zH, zI, zJ, zK, dcells, okc])
  · rw [allI_all] at k1
    cases ha : m.banks.all (fun b => !gb1 b)
    · obtain ⟨σ', rfl, h2⟩ := k1.2 ha
      simp -dsimp only [h2, EVs, ↓EVd, ↓reduceIte, zA, zB, zC, zD, zE, zF, reduceBEq, reduceCtorEq, zG, zH, zI, zJ, zK, dcells, okc]
    obtain rfl := k1.1 ha
    simp -dsimp only [Mc.d, EVs, ↓EVd, ↓reduceIte, zA, zB, zC, zD, zE, zF, reduceBEq, reduceCtorEq, zG, zH, zI, zJ, zK, dcells, okc]
    generalize hJ : iter _ _ _ _ = J
    have k2 := rloopJ (d := .v (.bool true)) (ret := 2) (e := 2) hJ m.instrs (fun j => ⟨[(1, .ptr 0 0), (4, .v (.int .i64 j))], [(0, .box m.d)], 1⟩) (fun _ s => giOK s)
      (σe := ⟨[(65, .v (.bool false)), (64, .v (.int .i64 m.instrs.length)), (63, .lst false (m.instrs.map Ins.d)), (62, .ptr 0 6), (61, .v (.int .i64 m.instrs.length)), (1, .ptr 0 0), (4, .v (.int .i64 m.instrs.length))], [(0, .box m.d)], 1⟩) hlb.2 hN (by simp -dsimp only [Mc.d, EVs, ↓EVd, ↓reduceIte, zA, zB, zC, zD, zE, zF, reduceBEq, reduceCtorEq, zG, zH, zI, zJ, zK, dcells, okc]) ?_ ?_ (by simp -dsimp only [lp4x3, Mc.d, EVs, ↓EVd, ↓reduceIte, zA, zB, zC, zD, zE, zF, reduceBEq, reduceCtorEq, zG, zH, zI, zJ, zK, dcells, okc])
    · rw [allI_all] at k2
      cases hb : m.instrs.all giOK
      · obtain ⟨σ', rfl, h2⟩ := k2.2 hb
        simp -dsimp only [h2, EVs, ↓EVd, ↓reduceIte, zA, zB, zC, zD, zE, zF, reduceBEq, reduceCtorEq, zG, zH, zI, zJ, zK, dcells, okc]
      obtain rfl := k2.1 hb
      have eN := @e_NodesM m (giOK_sm hh hb)
      simp only [Mc.d] at eN
      simp -dsimp only [Mc.d, hNd, eN, EVs, ↓EVd, ↓reduceIte, zA, zB, zC, zD, zE, zF, reduceBEq, reduceCtorEq, zG, zH, zI, zJ, zK, dcells, okc]
    · intro j s hj hjw hs hp
      simp only [giOK, gi1, Bool.and_eq_true, Bool.not_eq_true', Bool.or_eq_false_iff] at hp
      obtain ⟨⟨⟨p1, p2⟩, p3⟩, p4, p5⟩ := hp
      simp -dsimp only [lp4x3, Mc.d, Ins.d, hj, hs, p1, p2, p3, EVs, ↓EVd, ↓reduceIte, zA, zB, zC, zD, zE, zF, reduceBEq, reduceCtorEq, zG, zH, zI, zJ, zK, dcells, okc]
      generalize hL : iter _ _ _ _ = L
      obtain rfl := (lp4o C N hN m s j (hio s (List.mem_of_getElem? hs)).1 hL (by simp -dsimp only [Mc.d, Ins.d, EVs, ↓EVd, ↓reduceIte, zA, zB, zC, zD, zE, zF, reduceBEq, reduceCtorEq, zG, zH, zI, zJ, zK, dcells, okc])).1 p4
      simp -dsimp only [Mc.d, Ins.d, EVs, ↓EVd, ↓reduceIte, zA, zB, zC, zD, zE, zF, reduceBEq, reduceCtorEq, zG, zH, zI, zJ, zK, dcells, okc]
      generalize hL2 : iter _ _ _ _ = L2
      obtain rfl := (lp4e C N hN hG m s j (hio s (List.mem_of_getElem? hs)).2 hL2 (by simp -dsimp only [Mc.d, Ins.d, EVs, ↓EVd, ↓reduceIte, zA, zB, zC, zD, zE, zF, reduceBEq, reduceCtorEq, zG, zH, zI, zJ, zK, dcells, okc])).1 p5
      simp -dsimp only [Mc.d, Ins.d, hjw, EVs, ↓EVd, ↓reduceIte, zA, zB, zC, zD, zE, zF, reduceBEq, reduceCtorEq, zG, zH, zI, zJ, zK, dcells, okc]
    · intro j s hj hs hp
      cases p1 : decide ((14 : Int) < (s.operands.length : Int))
      case true => simp -dsimp only [EVq, lp4x3, Mc.d, Ins.d, hj, hs, p1, EVs, ↓EVd, ↓reduceIte, zA, zB, zC, zD, zE, zF, reduceBEq, reduceCtorEq, zG, zH, zI, zJ, zK, dcells, okc]
      cases p2 : decide ((14 : Int) < (s.effects.length : Int))
      case true => simp -dsimp only [EVq, lp4x3, Mc.d, Ins.d, hj, hs, p1, p2, EVs, ↓EVd, ↓reduceIte, zA, zB, zC, zD, zE, zF, reduceBEq, reduceCtorEq, zG, zH, zI, zJ, zK, dcells, okc]
      cases p3 : decide ((100 : Int) < (s.name.size : Int))
      case true => simp -dsimp only [EVq, lp4x3, Mc.d, Ins.d, hj, hs, p1, p2, p3, EVs, ↓EVd, ↓reduceIte, zA, zB, zC, zD, zE, zF, reduceBEq, reduceCtorEq, zG, zH, zI, zJ, zK, dcells, okc]
      have hg : gi1 s = false := by simp only [gi1, p1, p2, p3]; rfl
      simp only [giOK, hg, Bool.not_false, Bool.true_and] at hp
      simp -dsimp only [EVq, lp4x3, Mc.d, Ins.d, hj, hs, p1, p2, p3, EVs, ↓EVd, ↓reduceIte, zA, zB, zC, zD, zE, zF, reduceBEq, reduceCtorEq, zG, zH, zI, zJ, zK, dcells, okc]
      generalize hL : iter _ _ _ _ = L
      have ho := lp4o C N hN m s j (hio s (List.mem_of_getElem? hs)).1 hL (by simp -dsimp only [Mc.d, Ins.d, EVs, ↓EVd, ↓reduceIte, zA, zB, zC, zD, zE, zF, reduceBEq, reduceCtorEq, zG, zH, zI, zJ, zK, dcells, okc])
      cases p4 : s.operands.all (fun o => !go1 o)
      · obtain ⟨σ', rfl, h2⟩ := ho.2 p4
        simp -dsimp only [EVq, h2, EVs, ↓EVd, ↓reduceIte, zA, zB, zC, zD, zE, zF, reduceBEq, reduceCtorEq, zG, zH, zI, zJ, zK, dcells, okc]
      obtain rfl := ho.1 p4
      rw [p4, Bool.true_and] at hp
      simp -dsimp only [EVq, Mc.d, Ins.d, EVs, ↓EVd, ↓reduceIte, zA, zB, zC, zD, zE, zF, reduceBEq, reduceCtorEq, zG, zH, zI, zJ, zK, dcells, okc]
      generalize hL2 : iter _ _ _ _ = L2
      obtain ⟨σ', rfl, h2⟩ := (lp4e C N hN hG m s j (hio s (List.mem_of_getElem? hs)).2 hL2 (by simp -dsimp only [Mc.d, Ins.d, EVs, ↓EVd, ↓reduceIte, zA, zB, zC, zD, zE, zF, reduceBEq, reduceCtorEq, zG, zH, zI, zJ, zK, dcells, okc])).2 hp
      simp -dsimp only [EVq, h2, EVs, ↓EVd, ↓reduceIte, zA, zB, zC, zD, zE, zF, reduceBEq, reduceCtorEq, zG, zH, zI, zJ, zK, dcells, okc]
  · intro j b hj hjw hb hp
    simp only [gb1, Bool.not_eq_true', Bool.or_eq_false_iff] at hp
    simp -dsimp only [lp4x0, Mc.d, Bk.d, hj, hjw, hb, hp.1, hp.2, EVs, ↓EVd, ↓reduceIte, zA, zB, zC, zD, zE, zF, reduceBEq, reduceCtorEq, zG, zH, zI, zJ, zK, dcells, okc]
  · intro j b hj hb hp
    simp only [gb1, Bool.not_eq_false'] at hp
    cases c1 : decide ((74 : Int) < (b.regs.length : Int))
    · rw [c1, Bool.false_or] at hp
      simp -dsimp only [EVq, lp4x0, Mc.d, Bk.d, hj, hb, c1, hp, EVs, ↓EVd, ↓reduceIte, zA, zB, zC, zD, zE, zF, reduceBEq, reduceCtorEq, zG, zH, zI, zJ, zK, dcells, okc]
    · simp -dsimp only [EVq, lp4x0, Mc.d, Bk.d, hj, hb, c1, EVs, ↓EVd, ↓reduceIte, zA, zB, zC, zD, zE, zF, reduceBEq, reduceCtorEq, zG, zH, zI, zJ, zK, dcells, okc]
end Go.Proofs.Dv
set_option linter.unusedVariables false
set_option linter.unusedSimpArgs false
set_option maxRecDepth 100000
namespace Go.Proofs.Dv
open Go.RowKit
open Nat renaming reduceEqDiff → zA, reduceAdd → zB, reduceSub → zC, reduceLeDiff → zD, reduceLT → zE, reduceMul → zF
open Int renaming reduceToNat → zG, reduceLE → zH, reduceLT → zI
open List renaming set_cons_zero → zJ, set_cons_succ → zK
theorem field_le : ∀ (ps : List Pc) (a : Int), 0 ≤ a → a + 32 * ps.length ≤ 1000000 → (∀ p ∈ ps, PO 32 p) → a ≤ ps.foldl (fun n p => IntKind.i64.wrap (n + p.len)) a ∧ ps.foldl (fun n p => IntKind.i64.wrap (n + p.len)) a ≤ a + 32 * ps.length
  | [], a, _, _, _ => by simp
  | p :: ps, a, h0, h1, hp => by
    obtain ⟨q1, q2, _, _⟩ := hp p List.mem_cons_self
    simp only [List.length_cons] at h1 ⊢
    rw [List.foldl_cons, wr _ (by omega) (by omega)]
    have := field_le ps (a + p.len) (by omega) (by omega) fun q hq => hp q (List.mem_cons_of_mem _ hq)
    omega
theorem chk_fine {m : Mc} (h : chkR m = 0) : Fine m ∧ (m.address = 16 ∨ m.address = 32) ∧ (1 ≤ m.word ∧ m.word ≤ 4) := by
  unfold chkR at h
  cases hs : smallOK m with
  | false => rw [hs] at h; simp at h
  | true =>
    rw [hs] at h
    simp only [Bool.not_true, cond_false] at h
    cases hh : headR m && allI (insAt m) 0 m.instrs with
    | false => rw [hh] at h; simp at h
    | true =>
      simp only [headR, Bool.and_eq_true, Bool.or_eq_true, decide_eq_true_eq] at hh
      obtain ⟨⟨_, hw, ha, _, _, _⟩, hins⟩ := hh
      have hW8 := W8_eq hw
      have hw' := inB_iff.1 hw
      have hW : W8 m ≤ 32 := by omega
      simp only [smallOK, Bool.and_eq_true, List.all_eq_true] at hs
      obtain ⟨⟨⟨⟨_, z2⟩, _⟩, z4⟩, _, z6⟩ := hs
      have z2 := fewB_le z2
      have z4 := fewB_le z4
      refine ⟨⟨by omega, fun s hsm => ?_⟩, ha, hw'⟩
      have hz := z6 s hsm
      simp only [smI, Bool.and_eq_true, List.all_eq_true] at hz
      obtain ⟨⟨a1, _⟩, a3⟩ := hz
      have a1 := fewB_le a1
      refine ⟨by omega, fun o ho => ?_⟩
      obtain ⟨j, hj⟩ := List.mem_iff_getElem?.1 hsm
      have h1 := allI_get _ _ hins j s hj
      simp only [insAt, insR, Bool.and_eq_true] at h1
      have hops := h1.1.2.2.2.1
      obtain ⟨k, hk⟩ := List.mem_iff_getElem?.1 ho
      have hkl := (List.getElem?_eq_some_iff.1 hk).1
      have h2 := ops_get hops hk
      simp only [opR, opHead, Bool.and_eq_true] at h2
      have hpo : ∀ p ∈ o.pieces, PO 32 p := fun p hp => by
        obtain ⟨b1, b2, b3, b4⟩ := opsR_pcs hW hops o ho p hp
        exact ⟨b1, by omega, b3, by omega⟩
      have hpl := fewB_le (a3 o ho)
      have hfl : fieldOf o.pieces ≤ 128 := by
        have := (field_le o.pieces 0 (by omega) (by omega) hpo).2
        show o.pieces.foldl (fun n p => IntKind.i64.wrap (n + p.len)) 0 ≤ 128
        omega
      have h3 := h2.2.2
      unfold opKind at h3
      constructor
      · intro hk1
        simp only [hk1, if_true, Bool.and_eq_true] at h3
        obtain ⟨⟨b1, _⟩, b2⟩ := h3
        obtain ⟨q1, b, q2⟩ := inB_get (by omega) b1
        refine ⟨⟨b, by unfold atI; rw [if_pos (by simpa using q1), q2]⟩, ?_⟩
        split at b2
        · omega
        · simp only [Bool.and_eq_true] at b2
          have := inB_iff.1 b2.1.1
          rw [wr _ (by omega) (by omega)] at this
          omega
      · intro hk1
        simp only [hk1, if_false] at h3
        split at h3
        · simp only [Bool.and_eq_true, decide_eq_true_eq] at h3
          obtain ⟨⟨⟨_, b2⟩, b3⟩, b4⟩ := h3
          have b2 := inB_iff.1 b2
          rw [wr _ (by omega) (by omega)] at b4
          refine ⟨by omega, by omega, by omega, by omega⟩
        · simp at h3
mutual
theorem T.tw_wf : ∀ t : T, t.tw → t.wf ∧ ∀ u ∈ t.pre, 0 ≤ u.kind
  | .mk k w b n l s, h => by
    rw [T.tw] at h
    obtain ⟨h1, h2⟩ := T.tws_wf s h.2.2.2.2
    refine ⟨by rw [T.wf]; exact ⟨h.2.2.1, h1⟩, fun u hu => ?_⟩
    rw [T.pre_eq] at hu
    rcases List.mem_cons.1 hu with rfl | hu
    · exact h.1
    · exact h2 u hu
theorem T.tws_wf : ∀ s : List T, T.tws s → T.wfs s ∧ ∀ u ∈ T.pres s, 0 ≤ u.kind
  | [], _ => ⟨by rw [T.wfs]; trivial, fun u hu => by rw [T.pres] at hu; simp at hu⟩
  | t :: ts, h => by
    rw [T.tws] at h
    obtain ⟨h1, h2⟩ := T.tw_wf t h.1
    obtain ⟨h3, h4⟩ := T.tws_wf ts h.2
    refine ⟨by rw [T.wfs]; exact ⟨h1, h3⟩, fun u hu => ?_⟩
    rw [pres_cons] at hu
    rcases List.mem_append.1 hu with hu | hu
    · exact h2 u hu
    · exact h4 u hu
end
theorem great_terms {m : Mc} (hg : greatM m = false) (ht : m.tw) (hl : lenOK.lenOKs m.d) : MZ m ∧ ∀ i ∈ m.instrs, ∀ e ∈ i.effects, TOK e.addr ∧ TOK e.value ∧ TOK e.cond := by
  unfold greatM at hg
  cases h1 : gHead m with
  | true => rw [h1] at hg; simp at hg
  | false =>
    rw [h1, cond_false] at hg
    cases h2 : m.banks.all (fun b => !gb1 b) with
    | false => rw [h2] at hg; simp at hg
    | true =>
      rw [h2] at hg
      simp only [Bool.not_true, cond_false] at hg
      cases h3 : m.instrs.all giOK with
      | false => rw [h3] at hg; simp at hg
      | true =>
        obtain ⟨_, hsm⟩ := giOK_sm h1 h3
        have hll : ∀ i ∈ m.instrs, ∀ e ∈ i.effects, lenOK.lenOKs e.addr.d ∧ lenOK.lenOKs e.value.d ∧ lenOK.lenOKs e.cond.d := by
          intro i hi e he
          simp only [Mc.d, EVl, List.length_map] at hl
          have h4 := (lenOKss_iff.1 hl.2.2.2.2.2.2.1.2) _ (List.mem_map_of_mem hi)
          simp only [Ins.d, EVl, List.length_map] at h4
          have h5 := (lenOKss_iff.1 h4.2.2.2.2.1.2) _ (List.mem_map_of_mem he)
          rw [lenOKs_iff] at h5
          refine ⟨lenOKs_iff.2 fun d hd => h5 d ?_, lenOKs_iff.2 fun d hd => h5 d ?_, lenOKs_iff.2 fun d hd => h5 d ?_⟩ <;> simp [Ef.d, hd]
        refine ⟨fun i hi => ⟨(ht.1 i hi).1, (ht.1 i hi).2.1, fun e he => ?_⟩, fun i hi e he => ?_⟩
        · obtain ⟨⟨a1, a2⟩, ⟨b1, b2⟩, c1, c2⟩ := (hsm i hi).2 e he
          obtain ⟨d1, d2, d3⟩ := (ht.1 i hi).2.2 e he
          exact ⟨⟨by omega, by omega, (T.tw_wf _ d1).1⟩, ⟨by omega, by omega, (T.tw_wf _ d2).1⟩, by omega, by omega, (T.tw_wf _ d3).1⟩
        · obtain ⟨⟨a1, a2⟩, ⟨b1, b2⟩, c1, c2⟩ := (hsm i hi).2 e he
          obtain ⟨d1, d2, d3⟩ := (ht.1 i hi).2.2 e he
          obtain ⟨l1, l2, l3⟩ := hll i hi e he
          exact ⟨⟨by omega, by omega, (T.tw_wf _ d1).2, l1⟩, ⟨by omega, by omega, (T.tw_wf _ d2).2, l2⟩, by omega, by omega, (T.tw_wf _ d3).2, l3⟩
def x_LawOps (a : Mc × Mo × Int) : List D := match a with | (m, op, pc) => [.agg m.d, .agg op.d, .v (.int .u64 pc)]
theorem i_LawOps : ∀ a b, x_LawOps a = x_LawOps b → a = b := by
  rintro ⟨m, op, pc⟩ ⟨m', op', pc'⟩ h
  first | simpa [x_LawOps, INJ, and_assoc, Int.ofNat_inj] using h | (simp [x_LawOps, INJ, and_assoc, Int.ofNat_inj] at h; simp_all)
open Classical in
noncomputable def s_LawOps : List D → Option D := sOf x_LawOps fun a => match a with | (m, op, pc) => if (m.tw ∧ (∀ a ∈ op.args, I64 a) ∧ U64 pc) then some (.v (.bool true)) else none
theorem e_LawOps {m : Mc} {op : Mo} {pc : Int} (hc : (m.tw ∧ (∀ a ∈ op.args, I64 a) ∧ U64 pc)) : s_LawOps [.agg m.d, .agg op.d, .v (.int .u64 pc)] = some (.v (.bool true)) := (sOf_eq i_LawOps (m, op, pc)).trans (if_pos hc)
theorem R_LawOps {C : Ctx} {F : IFun} (hspec : ∀ N, maxLen + 10 < N → ∀ (m : Mc) (op : Mo) (pc : Int), lenOK.lenOKs [.agg m.d, .agg op.d, .v (.int .u64 pc)] → (m.tw ∧ (∀ a ∈ op.args, I64 a) ∧ U64 pc) → runE C N F [.agg m.d, .agg op.d, .v (.int .u64 pc)] = some (.v (.bool true))) : Runs C F (s_LawOps) := runs_of i_LawOps fun N hN a r hl hf => by
  obtain ⟨m, op, pc⟩ := a
  simp only [Option.ite_none_right_eq_some, Option.some.injEq] at hf
  obtain ⟨hc, rfl⟩ := hf
  exact hspec N hN m op pc hl hc
set_option maxHeartbeats 2000000 in
theorem r_MachineOps (C : Ctx) (hG : C.T 4 = some s_GreatM) (hV : C.T 5 = some s_VarsMv) (hV8 : C.T 6 = some s_VarsRv) (hSB : C.T 7 = some s_SameB) (hC : C.T 8 = some s_COp) (hC8 : C.T 9 = some s_COpR) (hSO : C.T 10 = some s_SameO) : Runs C ir3 s_LawOps := R_LawOps fun N hN m op pc hl hc => by
  obtain ⟨c1, c2, c3⟩ := hc
  have eG := @e_GreatM m
  simp only [Mc.d] at eG
  cases g1 : greatM m
  case true => simp -dsimp only [runE, run_eq, ir3, Mc.d, Mo.d, hG, eG, g1, EVs, ↓EVd, ↓reduceIte, zA, zB, zC, zD, zE, zF, reduceBEq, reduceCtorEq, zG, zH, zI, zJ, zK, dcells, okc]
  cases g2 : decide ((20 : Int) < (op.args.length : Int))
  case true => simp -dsimp only [runE, run_eq, ir3, Mc.d, Mo.d, hG, eG, g1, g2, EVs, ↓EVd, ↓reduceIte, zA, zB, zC, zD, zE, zF, reduceBEq, reduceCtorEq, zG, zH, zI, zJ, zK, dcells, okc]
  have hlm : lenOK.lenOKs m.d := by simp only [EVl] at hl; exact hl.1
  obtain ⟨t1, t2⟩ := great_terms g1 c1 hlm
  have hck := chk_eq t1 t2
  have hcop : copR m op = cop m op := by unfold cop copR; rw [hck]
  have eV := @e_VarsMv m op pc ⟨t2, fun h => chk_fine (hck ▸ h), c2, c3⟩
  have eV8 := @e_VarsRv m op pc ⟨t1, chk_fine, c2, c3⟩
  have eC := @e_COp m op ⟨t2, fun h => (chk_fine (hck ▸ h)).1, c2⟩
  have eC8 := @e_COpR m op ⟨t1, fun h => (chk_fine h).1, c2⟩
  rw [hcop] at eV8 eC8
  have eO := @e_SameO op
  simp only [Mc.d, Mo.d] at eV eV8 eC eC8 eO
  have g3 : decide ((0 + op.args.length) * 8 ≤ 140737488355328) = true := by
    simp only [decide_eq_false_iff_not] at g2
    exact decide_eq_true (by omega)
  have g4 : decide (op.args.length * 8 ≤ 140737488355328) = true := by
    simp only [decide_eq_false_iff_not] at g2
    exact decide_eq_true (by omega)
  have hi := @szs.2.2 op.args
  have hd : ∀ x : Int, decide (x = x) = true := fun x => decide_eq_true rfl
  unfold varsD at eV eV8
  cases g5 : decide (vcode m pc (cop m op) = 0)
  · have g5' : ¬ vcode m pc (cop m op) = 0 := by simpa using g5
    rw [if_neg g5'] at eV eV8
    have eS := @e_SameB true true []
    rw [List.map_nil] at eS
    simp -dsimp only [runE, run_eq, ir3, Mc.d, Mo.d, hG, eG, g1, g2, hV, eV, hV8, eV8, hSB, eS, hC, eC, hC8, eC8, hSO, eO, g3, g4, hi, hd, layd, EVs, ↓EVd, ↓reduceIte, zA, zB, zC, zD, zE, zF, reduceBEq, reduceCtorEq, zG, zH, zI, zJ, zK, dcells, okc]
  · have g5' : vcode m pc (cop m op) = 0 := by simpa using g5
    rw [if_pos g5'] at eV eV8
    have eS := @e_SameB false false (varsL m op pc)
    simp -dsimp only [runE, run_eq, ir3, Mc.d, Mo.d, hG, eG, g1, g2, hV, eV, hV8, eV8, hSB, eS, hC, eC, hC8, eC8, hSO, eO, g3, g4, hi, hd, layd, EVs, ↓EVd, ↓reduceIte, zA, zB, zC, zD, zE, zF, reduceBEq, reduceCtorEq, zG, zH, zI, zJ, zK, dcells, okc]
end Go.Proofs.Dv
