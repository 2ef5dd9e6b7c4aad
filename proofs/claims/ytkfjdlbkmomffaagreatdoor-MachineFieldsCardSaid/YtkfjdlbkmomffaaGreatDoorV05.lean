/- A part of the proof of one statement about the given program: a verified evaluator of the model's code, and contracts of functions (ZI YA YB YC YD YE YF YH Gm GT GU ZJ ZK ZL ZM ZN ZO ZP ZQ ZR ZS ZT). No condition of its own. -/
import Derived.KernelRfl
import Derived.Test.YtkfjdlbkmomffaaGreatDoorV04
set_option linter.unusedVariables false
set_option linter.unusedSimpArgs false
set_option linter.defProp false
set_option linter.constructorNameAsVariable false
set_option linter.unusedVariables false
set_option linter.unusedSimpArgs false
set_option maxRecDepth 100000
namespace Go.Proofs.Dv
open Go.RowKit
open Nat renaming reduceEqDiff → zA, reduceAdd → zB, reduceSub → zC, reduceLeDiff → zD, reduceLT → zE, reduceMul → zF
open Int renaming reduceToNat → zG, reduceLE → zH, reduceLT → zI
open List renaming set_cons_zero → zJ, set_cons_succ → zK
theorem read_tup (m : Mc) (rs : List Int) (reg e : Int) (h : e = 0 → ∃ r, m.regs[reg.toNat]? = some r) : ∃ v k : Int, readD m rs reg e = .tup [.v (.int .u64 v), .v (.int .i64 k)] := by
  unfold readD
  cases h0 : decide (e = 0) with
  | false => exact ⟨_, _, rfl⟩
  | true =>
    obtain ⟨r, hr⟩ := h (by simpa using h0)
    simp only [hr, Bool.not_true, cond_false]
    exact ⟨_, _, rfl⟩
end Go.Proofs.Dv
set_option linter.unusedVariables false
set_option linter.unusedSimpArgs false
set_option maxRecDepth 100000
namespace Go.Proofs.Dv
open Go.RowKit
open Nat renaming reduceEqDiff → zA, reduceAdd → zB, reduceSub → zC, reduceLeDiff → zD, reduceLT → zE, reduceMul → zF
open Int renaming reduceToNat → zG, reduceLE → zH, reduceLT → zI
open List renaming set_cons_zero → zJ, set_cons_succ → zK
theorem shl1 {k : Int} (h0 : 0 ≤ k) (h : k ≤ 62) : IntKind.i64.wrap (1 * 2 ^ (min k.toNat IntKind.i64.bits)) = p2 k.toNat := by
  have e : min k.toNat IntKind.i64.bits = k.toNat := Nat.min_eq_left (by show k.toNat ≤ 64; omega)
  have h1 := p2_pos k.toNat
  have h2 := p2_mono (show k.toNat ≤ 62 by omega)
  rw [p2_62] at h2
  rw [e, Int.one_mul]
  show IntKind.i64.wrap (p2 k.toNat) = _
  exact wr _ (by omega) (by omega)
theorem shlm {k : Int} (h0 : 0 ≤ k) (h : k ≤ 62) : IntKind.i64.wrap (-1 * 2 ^ (min k.toNat IntKind.i64.bits)) = -p2 k.toNat := by
  have e : min k.toNat IntKind.i64.bits = k.toNat := Nat.min_eq_left (by show k.toNat ≤ 64; omega)
  have h1 := p2_pos k.toNat
  have h2 := p2_mono (show k.toNat ≤ 62 by omega)
  rw [p2_62] at h2
  rw [e, Int.neg_mul, Int.one_mul]
  show IntKind.i64.wrap (-p2 k.toNat) = _
  exact wr _ (by omega) (by omega)
theorem tdiv_i64 {n : Int} (h : I64 n) (k : Nat) : IntKind.i64.wrap (n.tdiv (p2 k)) = n.tdiv (p2 k) := by
  have hp := p2_pos k
  obtain ⟨h1, h2⟩ := h
  have key : ∀ m : Int, 0 ≤ m → 0 ≤ m.tdiv (p2 k) ∧ m.tdiv (p2 k) ≤ m := by
    intro m hm
    rw [Int.tdiv_eq_ediv_of_nonneg hm]
    exact ⟨Int.ediv_nonneg hm (by omega), Int.ediv_le_self _ hm⟩
  rcases Int.le_total 0 n with h0 | h0
  · have := key n h0
    exact wr _ (by omega) (by omega)
  · have h3 := key (-n) (by omega)
    rw [Int.neg_tdiv] at h3
    exact wr _ (by omega) (by omega)
def rngB (o : Opn) (n : Int) : Bool := decide (n.tmod (p2 o.scale.toNat) = 0) && (if o.kind = 3 then inB (n.tdiv (p2 o.scale.toNat)) 0 (p2 (fieldOf o.pieces).toNat - 1) else inB (n.tdiv (p2 o.scale.toNat)) (-p2 (fieldOf o.pieces - 1).toNat) (p2 (fieldOf o.pieces - 1).toNat - 1))
def x_Rng (a : Opn × Int) : List D := match a with | (o, n) => [.agg o.d, .v (.int .i64 n)]
theorem i_Rng : ∀ a b, x_Rng a = x_Rng b → a = b := by
  rintro ⟨o, n⟩ ⟨o', n'⟩ h
  first | simpa [x_Rng, INJ, and_assoc, Int.ofNat_inj] using h | (simp [x_Rng, INJ, and_assoc, Int.ofNat_inj] at h; simp_all)
open Classical in
noncomputable def s_Rng : List D → Option D := sOf x_Rng fun a => match a with | (o, n) => if (0 ≤ o.scale ∧ o.scale ≤ 3 ∧ 1 ≤ fieldOf o.pieces ∧ fieldOf o.pieces ≤ 32 ∧ I64 n) then some (.v (.bool (rngB o n))) else none
theorem e_Rng {o : Opn} {n : Int} (hc : (0 ≤ o.scale ∧ o.scale ≤ 3 ∧ 1 ≤ fieldOf o.pieces ∧ fieldOf o.pieces ≤ 32 ∧ I64 n)) : s_Rng [.agg o.d, .v (.int .i64 n)] = some (.v (.bool (rngB o n))) := (sOf_eq i_Rng (o, n)).trans (if_pos hc)
theorem R_Rng {C : Ctx} {F : IFun} (hspec : ∀ N, maxLen + 10 < N → ∀ (o : Opn) (n : Int), lenOK.lenOKs [.agg o.d, .v (.int .i64 n)] → (0 ≤ o.scale ∧ o.scale ≤ 3 ∧ 1 ≤ fieldOf o.pieces ∧ fieldOf o.pieces ≤ 32 ∧ I64 n) → runE C N F [.agg o.d, .v (.int .i64 n)] = some (.v (.bool (rngB o n)))) : Runs C F (s_Rng) := runs_of i_Rng fun N hN a r hl hf => by
  obtain ⟨o, n⟩ := a
  simp only [Option.ite_none_right_eq_some, Option.some.injEq] at hf
  obtain ⟨hc, rfl⟩ := hf
  exact hspec N hN o n hl hc
theorem r_ranged (C : Ctx) (hF : C.T 144 = some s_Fld) (hW : C.T 58 = some s_in) : Runs C ir99 s_Rng := R_Rng fun N hN o n hl hc => by
  obtain ⟨c1, c2, c3, c4, c5⟩ := hc
  have e6 := @e_Fld o
  simp only [Opn.d] at e6
  unfold rngB
  generalize fieldOf o.pieces = F at *
  have g0 : decide (o.scale < 0) = false := decide_eq_false (by omega)
  have g1 := shl1 c1 (by omega)
  have g2 : decide (p2 o.scale.toNat = 0) = false := decide_eq_false (by have := p2_pos o.scale.toNat; omega)
  have g3 := tdiv_i64 c5 o.scale.toNat
  have g4 : decide (F < 0) = false := decide_eq_false (by omega)
  have g5 := shl1 (k := F) (by omega) (by omega)
  have g6 : IntKind.i64.wrap (F - 1) = F - 1 := wr _ (by omega) (by omega)
  have g7 : decide (F - 1 < 0) = false := decide_eq_false (by omega)
  have g8 := shl1 (k := F - 1) (by omega) (by omega)
  have g9 := shlm (k := F - 1) (by omega) (by omega)
  have b1 := p2_mono (show F.toNat ≤ 62 by omega)
  have b2 := p2_mono (show (F - 1).toNat ≤ 62 by omega)
  rw [p2_62] at b1 b2
  have b3 := p2_pos F.toNat
  have b4 := p2_pos (F - 1).toNat
  have g10 : IntKind.i64.wrap (p2 F.toNat - 1) = p2 F.toNat - 1 := wr _ (by omega) (by omega)
  have g11 : IntKind.i64.wrap (p2 (F - 1).toNat - 1) = p2 (F - 1).toNat - 1 := wr _ (by omega) (by omega)
  have w1 := @e_in (n.tdiv (p2 o.scale.toNat)) 0 (p2 F.toNat - 1)
  have w2 := @e_in (n.tdiv (p2 o.scale.toNat)) (-p2 (F - 1).toNat) (p2 (F - 1).toNat - 1)
  cases k1 : decide (n.tmod (p2 o.scale.toNat) = 0)
  · simp -dsimp only [runE, run_eq, ir99, Opn.d, g0, g1, g2, g3, k1, EVs, ↓EVd, ↓reduceIte, zA, zB, zC, zD, zE, zF, reduceBEq, reduceCtorEq, zG, zH, zI, zJ, zK, dcells, okc]
  by_cases k2 : o.kind = 3
  · have k2' : decide (o.kind = 3) = true := decide_eq_true k2
    rw [if_pos k2]
    simp -dsimp only [runE, run_eq, ir99, Opn.d, g0, g1, g2, g3, k1, k2', hF, e6, g4, g5, g10, hW, w1, EVs, ↓EVd, ↓reduceIte, zA, zB, zC, zD, zE, zF, reduceBEq, reduceCtorEq, zG, zH, zI, zJ, zK, dcells, okc]
  · have k2' : decide (o.kind = 3) = false := decide_eq_false k2
    rw [if_neg k2]
    simp -dsimp only [runE, run_eq, ir99, Opn.d, g0, g1, g2, g3, k1, k2', hF, e6, g6, g7, g8, g9, g11, hW, w2, EVs, ↓EVd, ↓reduceIte, zA, zB, zC, zD, zE, zF, reduceBEq, reduceCtorEq, zG, zH, zI, zJ, zK, dcells, okc]
end Go.Proofs.Dv
set_option linter.unusedVariables false
set_option linter.unusedSimpArgs false
set_option maxRecDepth 100000
namespace Go.Proofs.Dv
open Go.RowKit
open Nat renaming reduceEqDiff → zA, reduceAdd → zB, reduceSub → zC, reduceLeDiff → zD, reduceLT → zE, reduceMul → zF
open Int renaming reduceToNat → zG, reduceLE → zH, reduceLT → zI
open List renaming set_cons_zero → zJ, set_cons_succ → zK
def bankRegs (m : Mc) (o : Opn) : List Int := match atI m.banks o.bank with | some b => b.regs | none => []
def suitAt (m : Mc) (args : List Int) (i : Nat) (o : Opn) : Int :=
  if o.kind = 1 then (bif !has ((args[i]?).getD 0) (bankRegs m o) then 16 else bif decide (0 ≤ o.tied) && !decide ((atI args o.tied).getD 0 = (args[i]?).getD 0) then 40 else 0)
  else bif rngB o ((args[i]?).getD 0) then 0 else 24
def scR : Sc Nat Int → Int
  | .go _ => 0
  | .out c => c
def suitS (m : Mc) (op : Mo) (s : Ins) : Sc Nat Int := scan (tst (fun i o => decide (suitAt m op.args i o = 0)) (fun i _ => i + 1) fun i o => suitAt m op.args i o) 0 s.operands
def suits (m : Mc) (op : Mo) : Int := bif !inB op.instr 0 (IntKind.i64.wrap ((m.instrs.length : Int) - 1)) then 6 else
  match m.instrs[op.instr.toNat]? with
  | none => 6
  | some s => bif !decide ((op.args.length : Int) = s.operands.length) then 2 else scR (suitS m op s)
def OpFine (m : Mc) (L : Nat) (o : Opn) : Prop := (o.kind = 1 → (∃ b, atI m.banks o.bank = some b) ∧ o.tied < L) ∧ (¬ o.kind = 1 → 0 ≤ o.scale ∧ o.scale ≤ 3 ∧ 1 ≤ fieldOf o.pieces ∧ fieldOf o.pieces ≤ 32)
def Fine (m : Mc) : Prop := m.instrs.length ≤ 1000 ∧ ∀ s ∈ m.instrs, s.operands.length ≤ 1000 ∧ ∀ o ∈ s.operands, OpFine m s.operands.length o
def cop (m : Mc) (op : Mo) : Int := bif decide (chkM m = 0) then suits m op else chkM m
theorem args_at {op : Mo} {s : Ins} {j : Nat} {o : Opn} (h : decide ((op.args.length : Int) = s.operands.length) = true) (ho : s.operands[j]? = some o) : ∃ n, op.args[j]? = some n := by
  have := (List.getElem?_eq_some_iff.1 ho).1
  simp only [decide_eq_true_eq] at h
  exact ⟨_, List.getElem?_eq_getElem (by omega)⟩
theorem tied_at {op : Mo} {s : Ins} {t : Int} (h : decide ((op.args.length : Int) = s.operands.length) = true) (ht : t < s.operands.length) (h0 : decide (0 ≤ t) = true) : ∃ n, op.args[t.toNat]? = some n ∧ (atI op.args t).getD 0 = n := by
  simp only [decide_eq_true_eq] at h h0
  have e : op.args[t.toNat]? = some (op.args[t.toNat]'(by omega)) := List.getElem?_eq_getElem _
  exact ⟨_, e, by unfold atI; rw [if_pos h0, e]; rfl⟩
def x_COp (a : Mc × Mo) : List D := match a with | (m, op) => [.agg m.d, .agg op.d]
theorem i_COp : ∀ a b, x_COp a = x_COp b → a = b := by
  rintro ⟨m, op⟩ ⟨m', op'⟩ h
  first | simpa [x_COp, INJ, and_assoc, Int.ofNat_inj] using h | (simp [x_COp, INJ, and_assoc, Int.ofNat_inj] at h; simp_all)
open Classical in
noncomputable def s_COp : List D → Option D := sOf x_COp fun a => match a with | (m, op) => if ((∀ i ∈ m.instrs, ∀ e ∈ i.effects, TOK e.addr ∧ TOK e.value ∧ TOK e.cond) ∧ (chkM m = 0 → Fine m) ∧ ∀ a ∈ op.args, I64 a) then some (.v (.int .i64 (cop m op))) else none
theorem e_COp {m : Mc} {op : Mo} (hc : ((∀ i ∈ m.instrs, ∀ e ∈ i.effects, TOK e.addr ∧ TOK e.value ∧ TOK e.cond) ∧ (chkM m = 0 → Fine m) ∧ ∀ a ∈ op.args, I64 a)) : s_COp [.agg m.d, .agg op.d] = some (.v (.int .i64 (cop m op))) := (sOf_eq i_COp (m, op)).trans (if_pos hc)
theorem R_COp {C : Ctx} {F : IFun} (hspec : ∀ N, maxLen + 10 < N → ∀ (m : Mc) (op : Mo), lenOK.lenOKs [.agg m.d, .agg op.d] → ((∀ i ∈ m.instrs, ∀ e ∈ i.effects, TOK e.addr ∧ TOK e.value ∧ TOK e.cond) ∧ (chkM m = 0 → Fine m) ∧ ∀ a ∈ op.args, I64 a) → runE C N F [.agg m.d, .agg op.d] = some (.v (.int .i64 (cop m op)))) : Runs C F (s_COp) := runs_of i_COp fun N hN a r hl hf => by
  obtain ⟨m, op⟩ := a
  simp only [Option.ite_none_right_eq_some, Option.some.injEq] at hf
  obtain ⟨hc, rfl⟩ := hf
  exact hspec N hN m op hl hc
set_option maxHeartbeats 2000000 in
theorem r_CheckOp (C : Ctx) (hM : C.T 14 = some s_ChkM) (hW : C.T 58 = some s_in) (hR : C.T 99 = some s_Rng) (hH : C.T 100 = some s_HasI) : Runs C ir36 s_COp := R_COp fun N hN m op hl hc => by
  obtain ⟨t1, t2, t3⟩ := hc
  have eM := @e_ChkM m t1
  simp only [Mc.d] at eM
  unfold cop
  cases h0 : decide (chkM m = 0)
  · simp -dsimp only [runE, run_eq, ir36, Mc.d, Mo.d, hM, eM, h0, EVs, ↓EVd, ↓reduceIte, zA, zB, zC, zD, zE, zF, reduceBEq, reduceCtorEq, zG, zH, zI, zJ, zK, dcells, okc]
  obtain ⟨f1, f2⟩ := t2 (by simpa using h0)
  have w1 := @e_in op.instr 0 (IntKind.i64.wrap ((m.instrs.length : Int) - 1))
  rw [cond_true]
  unfold suits
  cases h1 : inB op.instr 0 (IntKind.i64.wrap ((m.instrs.length : Int) - 1))
  · simp -dsimp only [runE, run_eq, ir36, Mc.d, Mo.d, hM, eM, h0, hW, w1, h1, EVs, ↓EVd, ↓reduceIte, zA, zB, zC, zD, zE, zF, reduceBEq, reduceCtorEq, zG, zH, zI, zJ, zK, dcells, okc]
  obtain ⟨hge, s, hs⟩ := inB_get (by omega) h1
  obtain ⟨f3, f4⟩ := f2 s (List.mem_of_getElem? hs)
  rw [hs]
  simp only [Bool.not_true, cond_false]
  cases h2 : decide ((op.args.length : Int) = s.operands.length)
  · simp -dsimp only [runE, run_eq, ir36, Mc.d, Mo.d, Ins.d, hM, eM, h0, hW, w1, h1, hge, hs, h2, EVs, ↓EVd, ↓reduceIte, zA, zB, zC, zD, zE, zF, reduceBEq, reduceCtorEq, zG, zH, zI, zJ, zK, dcells, okc]
  have hml := maxLen_ge
  rw [Bool.not_true, cond_false]
  simp -dsimp only [runE, run_eq, ir36, Mc.d, Mo.d, Ins.d, hM, eM, h0, hW, w1, h1, hge, hs, h2, EVs, ↓EVd, ↓reduceIte, zA, zB, zC, zD, zE, zF, reduceBEq, reduceCtorEq, zG, zH, zI, zJ, zK, dcells, okc]
  generalize hI : iter _ _ _ _ = I
  revert I
  refine iter_test s.operands (fun j _ => ⟨[(2, .ptr 0 0), (3, .ptr 1 0), (37, .lst false (s.operands.map Opn.d)), (38, .v (.int .i64 s.operands.length)), (39, .v (.int .i64 j))], [(2, .box s.d), (1, .box op.d), (0, .box m.d)], 3⟩) (fun (i : Nat) o => decide (suitAt m op.args i o = 0)) (fun i _ => i + 1) (fun i o => suitAt m op.args i o) (fun i a => a = i) 0 (by omega) hN ?_ rfl ?_ ?_ ?_
  · simp -dsimp only [Mc.d, Mo.d, Ins.d, EVs, ↓EVd, ↓reduceIte, zA, zB, zC, zD, zE, zF, reduceBEq, reduceCtorEq, zG, zH, zI, zJ, zK, dcells, okc]
  · rintro _ j o hj hjw ho rfl
    refine ⟨?_, fun _ => rfl⟩
    obtain ⟨n, hn⟩ := args_at h2 ho
    obtain ⟨q1, q2⟩ := f4 o (List.mem_of_getElem? ho)
    by_cases hk : o.kind = 1
    · have hk' : decide (o.kind = 1) = true := decide_eq_true hk
      obtain ⟨⟨b, hb⟩, htl⟩ := q1 hk
      have hb1 := at_some hb
      have eH := @e_HasI false b.regs n
      cases c1 : has n b.regs
      · have hq : suitAt m op.args j o = 16 := by simp only [suitAt, if_pos hk, bankRegs, hb, hn, Option.getD_some, c1]; rfl
        simp -dsimp only [lp36x0, Mc.d, Mo.d, Ins.d, Opn.d, Bk.d, iD, hj, hjw, ho, hn, hk', hb1.1, hb1.2, hH, eH, c1, hq, Int.reduceEq, EVs, ↓EVd, ↓reduceIte, zA, zB, zC, zD, zE, zF, reduceBEq, reduceCtorEq, zG, zH, zI, zJ, zK, dcells, okc]
      · cases c2 : decide (0 ≤ o.tied)
        · have hq : suitAt m op.args j o = 0 := by simp only [suitAt, if_pos hk, bankRegs, hb, hn, Option.getD_some, c1, c2]; rfl
          simp -dsimp only [lp36x0, Mc.d, Mo.d, Ins.d, Opn.d, Bk.d, iD, hj, hjw, ho, hn, hk', hb1.1, hb1.2, hH, eH, c1, c2, hq, EVs, ↓EVd, ↓reduceIte, zA, zB, zC, zD, zE, zF, reduceBEq, reduceCtorEq, zG, zH, zI, zJ, zK, dcells, okc]
        · obtain ⟨n', hn1, hn2⟩ := tied_at h2 htl c2
          cases c3 : decide (n' = n)
          · have hq : suitAt m op.args j o = 40 := by simp only [suitAt, if_pos hk, bankRegs, hb, hn, Option.getD_some, c1, c2, hn2, c3]; rfl
            simp -dsimp only [lp36x0, Mc.d, Mo.d, Ins.d, Opn.d, Bk.d, iD, hj, hjw, ho, hn, hk', hb1.1, hb1.2, hH, eH, c1, c2, hn1, c3, hq, Int.reduceEq, EVs, ↓EVd, ↓reduceIte, zA, zB, zC, zD, zE, zF, reduceBEq, reduceCtorEq, zG, zH, zI, zJ, zK, dcells, okc]
          · have hq : suitAt m op.args j o = 0 := by simp only [suitAt, if_pos hk, bankRegs, hb, hn, Option.getD_some, c1, c2, hn2, c3]; rfl
            simp -dsimp only [lp36x0, Mc.d, Mo.d, Ins.d, Opn.d, Bk.d, iD, hj, hjw, ho, hn, hk', hb1.1, hb1.2, hH, eH, c1, c2, hn1, c3, hq, EVs, ↓EVd, ↓reduceIte, zA, zB, zC, zD, zE, zF, reduceBEq, reduceCtorEq, zG, zH, zI, zJ, zK, dcells, okc]
    · have hk' : decide (o.kind = 1) = false := decide_eq_false hk
      obtain ⟨r1, r2, r3, r4⟩ := q2 hk
      have eR := @e_Rng o n ⟨r1, r2, r3, r4, t3 n (List.mem_of_getElem? hn)⟩
      simp only [Opn.d] at eR
      cases c1 : rngB o n
      · have hq : suitAt m op.args j o = 24 := by simp only [suitAt, if_neg hk, hn, Option.getD_some, c1]; rfl
        simp -dsimp only [lp36x0, Mc.d, Mo.d, Ins.d, Opn.d, Bk.d, iD, hj, hjw, ho, hn, hk', hR, eR, c1, hq, Int.reduceEq, EVs, ↓EVd, ↓reduceIte, zA, zB, zC, zD, zE, zF, reduceBEq, reduceCtorEq, zG, zH, zI, zJ, zK, dcells, okc]
      · have hq : suitAt m op.args j o = 0 := by simp only [suitAt, if_neg hk, hn, Option.getD_some, c1]; rfl
        simp -dsimp only [lp36x0, Mc.d, Mo.d, Ins.d, Opn.d, Bk.d, iD, hj, hjw, ho, hn, hk', hR, eR, c1, hq, EVs, ↓EVd, ↓reduceIte, zA, zB, zC, zD, zE, zF, reduceBEq, reduceCtorEq, zG, zH, zI, zJ, zK, dcells, okc]
  · rintro _ j o hj ho rfl hsc
    have hsc' : suitS m op s = .out (suitAt m op.args j o) := hsc
    rw [hsc']
    obtain ⟨n, hn⟩ := args_at h2 ho
    obtain ⟨q1, q2⟩ := f4 o (List.mem_of_getElem? ho)
    by_cases hk : o.kind = 1
    · have hk' : decide (o.kind = 1) = true := decide_eq_true hk
      obtain ⟨⟨b, hb⟩, htl⟩ := q1 hk
      have hb1 := at_some hb
      have eH := @e_HasI false b.regs n
      cases c1 : has n b.regs
      · have hq : suitAt m op.args j o = 16 := by simp only [suitAt, if_pos hk, bankRegs, hb, hn, Option.getD_some, c1]; rfl
        simp -dsimp only [lp36x0, Mc.d, Mo.d, Ins.d, Opn.d, Bk.d, iD, hj, ho, hn, hk', hb1.1, hb1.2, hH, eH, c1, hq, Int.reduceEq, scR, EVs, ↓EVd, ↓reduceIte, zA, zB, zC, zD, zE, zF, reduceBEq, reduceCtorEq, zG, zH, zI, zJ, zK, dcells, okc]
      · cases c2 : decide (0 ≤ o.tied)
        · have hq : suitAt m op.args j o = 0 := by simp only [suitAt, if_pos hk, bankRegs, hb, hn, Option.getD_some, c1, c2]; rfl
          simp -dsimp only [lp36x0, Mc.d, Mo.d, Ins.d, Opn.d, Bk.d, iD, hj, ho, hn, hk', hb1.1, hb1.2, hH, eH, c1, c2, hq, scR, EVs, ↓EVd, ↓reduceIte, zA, zB, zC, zD, zE, zF, reduceBEq, reduceCtorEq, zG, zH, zI, zJ, zK, dcells, okc]
        · obtain ⟨n', hn1, hn2⟩ := tied_at h2 htl c2
          cases c3 : decide (n' = n)
          · have hq : suitAt m op.args j o = 40 := by simp only [suitAt, if_pos hk, bankRegs, hb, hn, Option.getD_some, c1, c2, hn2, c3]; rfl
            simp -dsimp only [lp36x0, Mc.d, Mo.d, Ins.d, Opn.d, Bk.d, iD, hj, ho, hn, hk', hb1.1, hb1.2, hH, eH, c1, c2, hn1, c3, hq, Int.reduceEq, scR, EVs, ↓EVd, ↓reduceIte, zA, zB, zC, zD, zE, zF, reduceBEq, reduceCtorEq, zG, zH, zI, zJ, zK, dcells, okc]
          · have hq : suitAt m op.args j o = 0 := by simp only [suitAt, if_pos hk, bankRegs, hb, hn, Option.getD_some, c1, c2, hn2, c3]; rfl
            simp -dsimp only [lp36x0, Mc.d, Mo.d, Ins.d, Opn.d, Bk.d, iD, hj, ho, hn, hk', hb1.1, hb1.2, hH, eH, c1, c2, hn1, c3, hq, scR, EVs, ↓EVd, ↓reduceIte, zA, zB, zC, zD, zE, zF, reduceBEq, reduceCtorEq, zG, zH, zI, zJ, zK, dcells, okc]
    · have hk' : decide (o.kind = 1) = false := decide_eq_false hk
      obtain ⟨r1, r2, r3, r4⟩ := q2 hk
      have eR := @e_Rng o n ⟨r1, r2, r3, r4, t3 n (List.mem_of_getElem? hn)⟩
      simp only [Opn.d] at eR
      cases c1 : rngB o n
      · have hq : suitAt m op.args j o = 24 := by simp only [suitAt, if_neg hk, hn, Option.getD_some, c1]; rfl
        simp -dsimp only [lp36x0, Mc.d, Mo.d, Ins.d, Opn.d, Bk.d, iD, hj, ho, hn, hk', hR, eR, c1, hq, Int.reduceEq, scR, EVs, ↓EVd, ↓reduceIte, zA, zB, zC, zD, zE, zF, reduceBEq, reduceCtorEq, zG, zH, zI, zJ, zK, dcells, okc]
      · have hq : suitAt m op.args j o = 0 := by simp only [suitAt, if_neg hk, hn, Option.getD_some, c1]; rfl
        simp -dsimp only [lp36x0, Mc.d, Mo.d, Ins.d, Opn.d, Bk.d, iD, hj, ho, hn, hk', hR, eR, c1, hq, scR, EVs, ↓EVd, ↓reduceIte, zA, zB, zC, zD, zE, zF, reduceBEq, reduceCtorEq, zG, zH, zI, zJ, zK, dcells, okc]
  · rintro _ rfl hsc
    have hsc' : suitS m op s = .go s.operands.length := hsc
    rw [hsc']
    simp -dsimp only [lp36x0, scR, EVs, ↓EVd, ↓reduceIte, zA, zB, zC, zD, zE, zF, reduceBEq, reduceCtorEq, zG, zH, zI, zJ, zK, dcells, okc]
end Go.Proofs.Dv
set_option linter.unusedVariables false
set_option linter.unusedSimpArgs false
set_option maxRecDepth 100000
namespace Go.Proofs.Dv
open Go.RowKit
open Nat renaming reduceEqDiff → zA, reduceAdd → zB, reduceSub → zC, reduceLeDiff → zD, reduceLT → zE, reduceMul → zF
open Int renaming reduceToNat → zG, reduceLE → zH, reduceLT → zI
open List renaming set_cons_zero → zJ, set_cons_succ → zK
end Go.Proofs.Dv
set_option linter.unusedVariables false
set_option linter.unusedSimpArgs false
set_option maxRecDepth 100000
namespace Go.Proofs.Dv
open Go.RowKit
open Nat renaming reduceEqDiff → zA, reduceAdd → zB, reduceSub → zC, reduceLeDiff → zD, reduceLT → zE, reduceMul → zF
open Int renaming reduceToNat → zG, reduceLE → zH, reduceLT → zI
open List renaming set_cons_zero → zJ, set_cons_succ → zK
def vN (m : Mc) (pc : Int) (o : Opn) (n : Int) : Int := if o.kind = 4 then pc + m.word * (n + 1) else n
def vB (m : Mc) (pc : Int) (o : Opn) (n : Int) : Bn := ⟨o.name, m.address, vN m pc o n % p2 m.address.toNat⟩
def vStep (m : Mc) (op : Mo) (pc : Int) (a : Nat × List Bn) (o : Opn) : Nat × List Bn := (a.1 + 1, if o.kind = 1 then a.2 else a.2 ++ [vB m pc o ((op.args[a.1]?).getD 0)])
def varsL (m : Mc) (op : Mo) (pc : Int) : List Bn := match m.instrs[op.instr.toNat]? with
  | some s => (s.operands.foldl (vStep m op pc) (0, [])).2 ++ [⟨strK [112, 99], m.address, pc⟩]
  | none => []
def vcode (m : Mc) (pc c : Int) : Int := bif decide (c = 0) then (bif decide (pc < p2 m.address.toNat) then 0 else 24) else c
def varsD (m : Mc) (op : Mo) (pc c : Int) : D := .tup [if vcode m pc c = 0 then .lst false ((varsL m op pc).map Bn.d) else .lst true [], .v (.int .i64 (vcode m pc c))]
theorem uwrap (y : Int) : IntKind.u64.wrap y = y % 18446744073709551616 := by simp [IntKind.wrap, IntKind.bits, IntKind.signed]
theorem umask {a : Int} (ha : a = 16 ∨ a = 32) {x : Int} (h0 : 0 ≤ x) (h1 : x < 18446744073709551616) : uand x (mskI a) = x % p2 a.toNat := by
  obtain ⟨X, rfl⟩ : ∃ X : Nat, x = X := ⟨x.toNat, by omega⟩
  have key : ∀ k : Nat, k ≤ 63 → uand (X : Int) ((2 ^ k - 1 : Nat) : Int) = ((X % 2 ^ k : Nat) : Int) := by
    intro k hk
    have h2 : 2 ^ k ≤ 2 ^ 63 := Nat.pow_le_pow_right (by omega) hk
    have h3 : (2 : Nat) ^ 63 < 2 ^ 64 := by decide
    rw [uand_nat (by omega) (by omega), Nat.and_two_pow_sub_one_eq_mod]
  rcases ha with rfl | rfl
  · exact key 16 (by omega)
  · exact key 32 (by omega)
theorem bits_m {m : Mc} (ha : m.address = 16 ∨ m.address = 32) (hw : 1 ≤ m.word ∧ m.word ≤ 4) {pc n : Int} (hp : U64 pc) :
    uand (IntKind.u64.wrap (pc + IntKind.u64.wrap (IntKind.u64.wrap m.word * IntKind.u64.wrap (IntKind.u64.wrap n + 1)))) (mskI m.address) = (pc + m.word * (n + 1)) % p2 m.address.toNat ∧
    uand (IntKind.u64.wrap n) (mskI m.address) = n % p2 m.address.toNat := by
  have h16 : p2 (16 : Int).toNat = 65536 := rfl
  have h32 : p2 (32 : Int).toNat = 4294967296 := rfl
  simp only [uwrap]
  constructor
  · rw [umask ha (by omega) (by omega)]
    have hm : m.word = 1 ∨ m.word = 2 ∨ m.word = 3 ∨ m.word = 4 := by omega
    rcases hm with h | h | h | h <;> rcases ha with h' | h' <;> rw [h, h'] <;> simp only [h16, h32] <;> omega
  · rw [umask ha (by omega) (by omega)]
    rcases ha with h' | h' <;> rw [h'] <;> simp only [h16, h32] <;> omega
def x_VarsMv (a : Mc × Mo × Int) : List D := match a with | (m, op, pc) => [.agg m.d, .agg op.d, .v (.int .u64 pc)]
theorem i_VarsMv : ∀ a b, x_VarsMv a = x_VarsMv b → a = b := by
  rintro ⟨m, op, pc⟩ ⟨m', op', pc'⟩ h
  first | simpa [x_VarsMv, INJ, and_assoc, Int.ofNat_inj] using h | (simp [x_VarsMv, INJ, and_assoc, Int.ofNat_inj] at h; simp_all)
open Classical in
noncomputable def s_VarsMv : List D → Option D := sOf x_VarsMv fun a => match a with | (m, op, pc) => if ((∀ i ∈ m.instrs, ∀ e ∈ i.effects, TOK e.addr ∧ TOK e.value ∧ TOK e.cond) ∧ (chkM m = 0 → Fine m ∧ (m.address = 16 ∨ m.address = 32) ∧ (1 ≤ m.word ∧ m.word ≤ 4)) ∧ (∀ a ∈ op.args, I64 a) ∧ U64 pc) then some (varsD m op pc (cop m op)) else none
theorem e_VarsMv {m : Mc} {op : Mo} {pc : Int} (hc : ((∀ i ∈ m.instrs, ∀ e ∈ i.effects, TOK e.addr ∧ TOK e.value ∧ TOK e.cond) ∧ (chkM m = 0 → Fine m ∧ (m.address = 16 ∨ m.address = 32) ∧ (1 ≤ m.word ∧ m.word ≤ 4)) ∧ (∀ a ∈ op.args, I64 a) ∧ U64 pc)) : s_VarsMv [.agg m.d, .agg op.d, .v (.int .u64 pc)] = some (varsD m op pc (cop m op)) := (sOf_eq i_VarsMv (m, op, pc)).trans (if_pos hc)
theorem R_VarsMv {C : Ctx} {F : IFun} (hspec : ∀ N, maxLen + 10 < N → ∀ (m : Mc) (op : Mo) (pc : Int), lenOK.lenOKs [.agg m.d, .agg op.d, .v (.int .u64 pc)] → ((∀ i ∈ m.instrs, ∀ e ∈ i.effects, TOK e.addr ∧ TOK e.value ∧ TOK e.cond) ∧ (chkM m = 0 → Fine m ∧ (m.address = 16 ∨ m.address = 32) ∧ (1 ≤ m.word ∧ m.word ≤ 4)) ∧ (∀ a ∈ op.args, I64 a) ∧ U64 pc) → runE C N F [.agg m.d, .agg op.d, .v (.int .u64 pc)] = some (varsD m op pc (cop m op))) : Runs C F (s_VarsMv) := runs_of i_VarsMv fun N hN a r hl hf => by
  obtain ⟨m, op, pc⟩ := a
  simp only [Option.ite_none_right_eq_some, Option.some.injEq] at hf
  obtain ⟨hc, rfl⟩ := hf
  exact hspec N hN m op pc hl hc
theorem scan_len {α : Type} {t : Nat → α → Bool} {v : Nat → α → Int} : ∀ (l : List α) (k r : Nat), scan (tst t (fun i _ => i + 1) v) k l = .go r → ∀ j x, l[j]? = some x → t (k + j) x = true
  | [], k, r, _ => fun j x hx => by simp at hx
  | y :: l, k, r, h => by
    simp only [scan, tst] at h
    cases ht : t k y with
    | false => rw [ht] at h; simp at h
    | true =>
      rw [ht] at h
      intro j x hx
      cases j with
      | zero => simp at hx; subst hx; exact ht
      | succ j =>
        have := scan_len l (k + 1) r (by simpa using h) j x (by simpa using hx)
        rwa [show k + 1 + j = k + (j + 1) by omega] at this
theorem suits_ok {m : Mc} {op : Mo} (hl : m.instrs.length ≤ 1000000) (h : suits m op = 0) : decide (0 ≤ op.instr) = true ∧ ∃ s, m.instrs[op.instr.toNat]? = some s ∧ decide ((op.args.length : Int) = s.operands.length) = true ∧ ∀ j o, s.operands[j]? = some o → suitAt m op.args j o = 0 := by
  unfold suits at h
  cases h1 : inB op.instr 0 (IntKind.i64.wrap ((m.instrs.length : Int) - 1)) with
  | false => rw [h1] at h; simp at h
  | true =>
    obtain ⟨hge, s, hs⟩ := inB_get hl h1
    rw [h1, hs] at h
    simp only [Bool.not_true, cond_false] at h
    cases h2 : decide ((op.args.length : Int) = s.operands.length) with
    | false => rw [h2] at h; simp at h
    | true =>
      rw [h2] at h
      simp only [Bool.not_true, cond_false] at h
      refine ⟨hge, s, hs, h2, fun j o ho => ?_⟩
      cases hsc : suitS m op s with
      | out c =>
        rw [hsc] at h
        have hc : c = 0 := h
        obtain ⟨i, x, hx⟩ : ∃ i x, c = suitAt m op.args i x ∧ ¬ suitAt m op.args i x = 0 := by
          have : ∀ (l : List Opn) (k : Nat), scan (tst (fun i o => decide (suitAt m op.args i o = 0)) (fun i _ => i + 1) fun i o => suitAt m op.args i o) k l = .out c → ∃ i x, c = suitAt m op.args i x ∧ ¬ suitAt m op.args i x = 0 := by
            intro l
            induction l with
            | nil => intro k h; simp [scan] at h
            | cons y l ih =>
              intro k h
              simp only [scan, tst] at h
              by_cases hq : suitAt m op.args k y = 0
              · rw [decide_eq_true hq] at h; exact ih (k + 1) (by simpa using h)
              · rw [decide_eq_false hq] at h
                simp at h
                exact ⟨k, y, h.symm, hq⟩
          exact this _ _ hsc
        exact (hx.2 (hx.1 ▸ hc)).elim
      | go r =>
        have := scan_len _ 0 r hsc j o ho
        simpa using this
set_option maxHeartbeats 2000000 in
theorem r_VarsM (C : Ctx) (hO : C.T 36 = some s_COp) (hK : C.T 89 = some s_Mask) : Runs C ir34 s_VarsMv := R_VarsMv fun N hN m op pc hl hc => by
  obtain ⟨t1, t2, t3, t4⟩ := hc
  have eO := @e_COp m op ⟨t1, fun h => (t2 h).1, t3⟩
  simp only [Mc.d, Mo.d] at eO
  have eK := @e_Mask m.address
  unfold varsD
  cases h0 : decide (cop m op = 0)
  · have hv : vcode m pc (cop m op) = cop m op := by simp only [vcode, h0, cond_false]
    rw [hv, if_neg (by simpa using h0)]
    simp -dsimp only [runE, run_eq, ir34, Mc.d, Mo.d, hO, eO, h0, EVs, ↓EVd, ↓reduceIte, zA, zB, zC, zD, zE, zF, reduceBEq, reduceCtorEq, zG, zH, zI, zJ, zK, dcells, okc]
  have h0' : cop m op = 0 := by simpa using h0
  have hm0 : decide (chkM m = 0) = true := by
    cases hh : decide (chkM m = 0) with
    | true => rfl
    | false => simp only [cop, hh, cond_false] at h0'; rw [h0'] at hh; simp at hh
  obtain ⟨⟨f1, f2⟩, ha, hwd⟩ := t2 (by simpa using hm0)
  simp only [cop, hm0, cond_true] at h0'
  obtain ⟨hge, s, hs, hlen, hsu⟩ := suits_ok (by omega) h0'
  have hmask : ∀ {x : Int}, decide (mskI m.address < x) = !decide (x < p2 m.address.toNat) := by
    intro x
    have : mskI m.address = p2 m.address.toNat - 1 := by
      unfold mskI; rw [if_pos (inB_iff.2 (by omega))]; rfl
    rw [this]
    by_cases hx : x < p2 m.address.toNat
    · rw [decide_eq_true hx, decide_eq_false (by omega)]; rfl
    · rw [decide_eq_false hx, decide_eq_true (by omega)]; rfl
  cases h3 : decide (pc < p2 m.address.toNat)
  · have hv : vcode m pc (cop m op) = 24 := by simp only [vcode, h0, h3, cond_true, cond_false]
    rw [hv, if_neg (by omega)]
    simp -dsimp only [runE, run_eq, ir34, Mc.d, Mo.d, hO, eO, h0, hK, eK, hmask, h3, EVs, ↓EVd, ↓reduceIte, zA, zB, zC, zD, zE, zF, reduceBEq, reduceCtorEq, zG, zH, zI, zJ, zK, dcells, okc]
  have hv : vcode m pc (cop m op) = 0 := by simp only [vcode, h0, h3, cond_true]
  have hL : varsL m op pc = (s.operands.foldl (vStep m op pc) (0, [])).2 ++ [⟨strK [112, 99], m.address, pc⟩] := by simp only [varsL, hs]
  rw [hv, if_pos rfl, hL]
  obtain ⟨f3, f4⟩ := f2 s (List.mem_of_getElem? hs)
  have hml := maxLen_ge
  simp -dsimp only [runE, run_eq, ir34, Mc.d, Mo.d, Ins.d, hO, eO, h0, hK, eK, hmask, h3, hge, hs, EVs, ↓EVd, ↓reduceIte, zA, zB, zC, zD, zE, zF, reduceBEq, reduceCtorEq, zG, zH, zI, zJ, zK, dcells, okc]
  generalize hI : iter _ _ _ _ = I
  revert I
  refine iter_all s.operands (fun j a => ⟨[(2, .v (.int .u64 pc)), (3, .ptr 0 0), (4, .ptr 1 0), (9, .v (.int .u64 (mskI m.address))), (10, .own 2 a.2.length), (32, .lst false (s.operands.map Opn.d)), (33, .v (.int .i64 s.operands.length)), (34, .v (.int .i64 j))], [(2, .row 3 (a.2.map Bn.d)), (1, .box op.d), (0, .box m.d)], 3⟩) (vStep m op pc) (fun j a => a.1 = j ∧ a.2.length ≤ j) (0, []) (by omega) hN ?_ ⟨rfl, Nat.le_refl _⟩ ?_ ?_
  · simp -dsimp only [Mc.d, Mo.d, Ins.d, EVs, ↓EVd, ↓reduceIte, zA, zB, zC, zD, zE, zF, reduceBEq, reduceCtorEq, zG, zH, zI, zJ, zK, dcells, okc]
  · rintro j ⟨a, l⟩ o hj hjw ho ⟨ha1, ha2⟩
    simp only at ha1 ha2
    subst ha1
    have hil := (List.getElem?_eq_some_iff.1 ho).1
    obtain ⟨n, hn⟩ := args_at hlen ho
    have hb' : decide ((l.length + 1) * 32 ≤ 140737488355328) = true := decide_eq_true (by omega)
    obtain ⟨b1, b2⟩ := @bits_m m ha hwd pc n t4
    refine ⟨?_, rfl, ?_⟩
    · by_cases hk : o.kind = 1
      · have hk' : decide (o.kind = 1) = true := decide_eq_true hk
        have hst : vStep m op pc (a, l) o = (a + 1, l) := by simp only [vStep, if_pos hk]
        rw [hst]
        simp -dsimp only [lp34x0, Mc.d, Mo.d, Ins.d, Opn.d, iD, hj, hjw, ho, hn, hk', EVs, ↓EVd, ↓reduceIte, zA, zB, zC, zD, zE, zF, reduceBEq, reduceCtorEq, zG, zH, zI, zJ, zK, dcells, okc]
      · have hk' : decide (o.kind = 1) = false := decide_eq_false hk
        by_cases h4 : o.kind = 4
        · have h4' : decide (o.kind = 4) = true := decide_eq_true h4
          have hst : vStep m op pc (a, l) o = (a + 1, l ++ [⟨o.name, m.address, (pc + m.word * (n + 1)) % p2 m.address.toNat⟩]) := by simp only [vStep, if_neg hk, vB, vN, if_pos h4, hn, Option.getD_some]
          rw [hst]
          simp -dsimp only [lp34x0, Mc.d, Mo.d, Ins.d, Opn.d, iD, hj, hjw, ho, hn, hk', h4', foldU, b1, layd, hb', Bn.d, List.length_append, List.map_append, Nat.reduceMul, EVs, ↓EVd, ↓reduceIte, zA, zB, zC, zD, zE, zF, reduceBEq, reduceCtorEq, zG, zH, zI, zJ, zK, dcells, okc]
        · have h4' : decide (o.kind = 4) = false := decide_eq_false h4
          have hst : vStep m op pc (a, l) o = (a + 1, l ++ [⟨o.name, m.address, n % p2 m.address.toNat⟩]) := by simp only [vStep, if_neg hk, vB, vN, if_neg h4, hn, Option.getD_some]
          rw [hst]
          simp -dsimp only [lp34x0, Mc.d, Mo.d, Ins.d, Opn.d, iD, hj, hjw, ho, hn, hk', h4', foldU, b2, layd, hb', Bn.d, List.length_append, List.map_append, Nat.reduceMul, EVs, ↓EVd, ↓reduceIte, zA, zB, zC, zD, zE, zF, reduceBEq, reduceCtorEq, zG, zH, zI, zJ, zK, dcells, okc]
    · unfold vStep
      simp only
      split
      · omega
      · simp only [List.length_append, List.length_singleton]; omega
  · rintro ⟨ha1, ha2⟩
    have hb' : decide (((s.operands.foldl (vStep m op pc) (0, [])).2.length + 1) * 32 ≤ 140737488355328) = true := decide_eq_true (by omega)
    simp -dsimp only [lp34x0, Mc.d, Mo.d, Ins.d, layd, strK_d, hb', Bn.d, List.length_append, List.map_append, Nat.reduceMul, EVs, ↓EVd, ↓reduceIte, zA, zB, zC, zD, zE, zF, reduceBEq, reduceCtorEq, zG, zH, zI, zJ, zK, dcells, okc]
end Go.Proofs.Dv
set_option linter.unusedVariables false
set_option linter.unusedSimpArgs false
set_option maxRecDepth 100000
namespace Go.Proofs.Dv
open Go.RowKit
open Nat renaming reduceEqDiff → zA, reduceAdd → zB, reduceSub → zC, reduceLeDiff → zD, reduceLT → zE, reduceMul → zF
open Int renaming reduceToNat → zG, reduceLE → zH, reduceLT → zI
open List renaming set_cons_zero → zJ, set_cons_succ → zK
end Go.Proofs.Dv
set_option linter.unusedVariables false
set_option linter.unusedSimpArgs false
set_option maxRecDepth 100000
namespace Go.Proofs.Dv
open Go.RowKit
open Nat renaming reduceEqDiff → zA, reduceAdd → zB, reduceSub → zC, reduceLeDiff → zD, reduceLT → zE, reduceMul → zF
open Int renaming reduceToNat → zG, reduceLE → zH, reduceLT → zI
open List renaming set_cons_zero → zJ, set_cons_succ → zK
end Go.Proofs.Dv
set_option linter.unusedVariables false
set_option linter.unusedSimpArgs false
set_option maxRecDepth 100000
namespace Go.Proofs.Dv
open Go.RowKit
open Nat renaming reduceEqDiff → zA, reduceAdd → zB, reduceSub → zC, reduceLeDiff → zD, reduceLT → zE, reduceMul → zF
open Int renaming reduceToNat → zG, reduceLE → zH, reduceLT → zI
open List renaming set_cons_zero → zJ, set_cons_succ → zK
theorem field_le : ∀ (ps : List Pc) (a : Int), 0 ≤ a → a + 32 * ps.length ≤ 1000000 → (∀ p ∈ ps, PO 32 p) → a ≤ ps.foldl (fun n p => IntKind.i64.wrap (n + p.len)) a ∧ ps.foldl (fun n p => IntKind.i64.wrap (n + p.len)) a ≤ a + 32 * ps.length
  | [], a, _, _, _ => by simp
  | p :: ps, a, h0, h1, hp => by
    obtain ⟨q1, q2, _, _⟩ := hp p List.mem_cons_self
    simp only [List.length_cons] at h1 ⊢
    rw [List.foldl_cons, wr _ (by omega) (by omega)]
    have := field_le ps (a + p.len) (by omega) (by omega) fun q hq => hp q (List.mem_cons_of_mem _ hq)
    omega
theorem chk_fine {m : Mc} (h : chkR m = 0) : Fine m ∧ (m.address = 16 ∨ m.address = 32) ∧ (1 ≤ m.word ∧ m.word ≤ 4) := by
  unfold chkR at h
  cases hs : smallOK m with
  | false => rw [hs] at h; simp at h
  | true =>
    rw [hs] at h
    simp only [Bool.not_true, cond_false] at h
    cases hh : headR m && allI (insAt m) 0 m.instrs with
    | false => rw [hh] at h; simp at h
    | true =>
      simp only [headR, Bool.and_eq_true, Bool.or_eq_true, decide_eq_true_eq] at hh
      obtain ⟨⟨_, hw, ha, _, _, _⟩, hins⟩ := hh
      have hW8 := W8_eq hw
      have hw' := inB_iff.1 hw
      have hW : W8 m ≤ 32 := by omega
      simp only [smallOK, Bool.and_eq_true, List.all_eq_true] at hs
      obtain ⟨⟨⟨⟨_, z2⟩, _⟩, z4⟩, _, z6⟩ := hs
      have z2 := fewB_le z2
      have z4 := fewB_le z4
      refine ⟨⟨by omega, fun s hsm => ?_⟩, ha, hw'⟩
      have hz := z6 s hsm
      simp only [smI, Bool.and_eq_true, List.all_eq_true] at hz
      obtain ⟨⟨a1, _⟩, a3⟩ := hz
      have a1 := fewB_le a1
      refine ⟨by omega, fun o ho => ?_⟩
      obtain ⟨j, hj⟩ := List.mem_iff_getElem?.1 hsm
      have h1 := allI_get _ _ hins j s hj
      simp only [insAt, insR, Bool.and_eq_true] at h1
      have hops := h1.1.2.2.2.1
      obtain ⟨k, hk⟩ := List.mem_iff_getElem?.1 ho
      have hkl := (List.getElem?_eq_some_iff.1 hk).1
      have h2 := ops_get hops hk
      simp only [opR, opHead, Bool.and_eq_true] at h2
      have hpo : ∀ p ∈ o.pieces, PO 32 p := fun p hp => by
        obtain ⟨b1, b2, b3, b4⟩ := opsR_pcs hW hops o ho p hp
        exact ⟨b1, by omega, b3, by omega⟩
      have hpl := fewB_le (a3 o ho)
      have hfl : fieldOf o.pieces ≤ 128 := by
        have := (field_le o.pieces 0 (by omega) (by omega) hpo).2
        show o.pieces.foldl (fun n p => IntKind.i64.wrap (n + p.len)) 0 ≤ 128
        omega
      have h3 := h2.2.2
      unfold opKind at h3
      constructor
      · intro hk1
        simp only [hk1, if_true, Bool.and_eq_true] at h3
        obtain ⟨⟨b1, _⟩, b2⟩ := h3
        obtain ⟨q1, b, q2⟩ := inB_get (by omega) b1
        refine ⟨⟨b, by unfold atI; rw [if_pos (by simpa using q1), q2]⟩, ?_⟩
        split at b2
        · omega
        · simp only [Bool.and_eq_true] at b2
          have := inB_iff.1 b2.1.1
          rw [wr _ (by omega) (by omega)] at this
          omega
      · intro hk1
        simp only [hk1, if_false] at h3
        split at h3
        · simp only [Bool.and_eq_true, decide_eq_true_eq] at h3
          obtain ⟨⟨⟨_, b2⟩, b3⟩, b4⟩ := h3
          have b2 := inB_iff.1 b2
          rw [wr _ (by omega) (by omega)] at b4
          refine ⟨by omega, by omega, by omega, by omega⟩
        · simp at h3
end Go.Proofs.Dv
set_option maxRecDepth 100000
namespace Go.Proofs.Dv
def bs (l : List UInt8) : ByteArray := ⟨⟨l⟩⟩
def z0 : T := .mk 0 0 0 ⟨#[]⟩ 0 []
def tV (w : Int) (n : List UInt8) : T := .mk 2 w 0 (bs n) 0 []
def tN (k w : Int) (s : List T) : T := .mk k w 0 ⟨#[]⟩ 0 s
def gm0 : Mc := ⟨bs [114, 105, 115, 99], 4, 32, [⟨bs [114, 48], 32, (-1), 0⟩, ⟨bs [114, 49], 32, (-1), 0⟩, ⟨bs [114, 50], 32, (-1), 0⟩, ⟨bs [114, 51], 32, (-1), 0⟩, ⟨bs [114, 52], 32, (-1), 0⟩, ⟨bs [114, 53], 32, (-1), 0⟩, ⟨bs [114, 54], 32, (-1), 0⟩, ⟨bs [114, 55], 32, (-1), 0⟩, ⟨bs [114, 56], 32, (-1), 0⟩, ⟨bs [114, 57], 32, (-1), 0⟩, ⟨bs [114, 49, 48], 32, (-1), 0⟩, ⟨bs [114, 49, 49], 32, (-1), 0⟩, ⟨bs [114, 49, 50], 32, (-1), 0⟩, ⟨bs [114, 49, 51], 32, (-1), 0⟩, ⟨bs [115, 112], 32, (-1), 0⟩, ⟨bs [108, 114], 32, (-1), 0⟩], [⟨bs [103, 112, 114], [0, 1, 2, 3, 4, 5, 6, 7, 8, 9, 10, 11, 12, 13, 14, 15]⟩], [⟨bs [97, 108, 117], 1⟩, ⟨bs [109, 101, 109], 1⟩, ⟨bs [109, 117, 108], 1⟩], [
  ⟨bs [97, 100, 100], 4227858432, 0, [⟨bs [100], 1, 0, 0, [⟨22, 4⟩], -1⟩, ⟨bs [97], 1, 0, 0, [⟨18, 4⟩], -1⟩, ⟨bs [98], 1, 0, 0, [⟨14, 4⟩], -1⟩], [⟨1, 0, 0, z0, (tN 5 32 [(tV 32 [97]), (tV 32 [98])]), z0⟩], 0, 1, 1, 0⟩,
  ⟨bs [115, 117, 98], 4227858432, 67108864, [⟨bs [100], 1, 0, 0, [⟨22, 4⟩], -1⟩, ⟨bs [97], 1, 0, 0, [⟨18, 4⟩], -1⟩, ⟨bs [98], 1, 0, 0, [⟨14, 4⟩], -1⟩], [⟨1, 0, 0, z0, (tN 6 32 [(tV 32 [97]), (tV 32 [98])]), z0⟩], 0, 1, 1, 0⟩,
  ⟨bs [97, 110, 100], 4227858432, 134217728, [⟨bs [100], 1, 0, 0, [⟨22, 4⟩], -1⟩, ⟨bs [97], 1, 0, 0, [⟨18, 4⟩], -1⟩, ⟨bs [98], 1, 0, 0, [⟨14, 4⟩], -1⟩], [⟨1, 0, 0, z0, (tN 8 32 [(tV 32 [97]), (tV 32 [98])]), z0⟩], 0, 1, 1, 0⟩,
  ⟨bs [111, 114], 4227858432, 201326592, [⟨bs [100], 1, 0, 0, [⟨22, 4⟩], -1⟩, ⟨bs [97], 1, 0, 0, [⟨18, 4⟩], -1⟩, ⟨bs [98], 1, 0, 0, [⟨14, 4⟩], -1⟩], [⟨1, 0, 0, z0, (tN 9 32 [(tV 32 [97]), (tV 32 [98])]), z0⟩], 0, 1, 1, 0⟩,
  ⟨bs [120, 111, 114], 4227858432, 268435456, [⟨bs [100], 1, 0, 0, [⟨22, 4⟩], -1⟩, ⟨bs [97], 1, 0, 0, [⟨18, 4⟩], -1⟩, ⟨bs [98], 1, 0, 0, [⟨14, 4⟩], -1⟩], [⟨1, 0, 0, z0, (tN 10 32 [(tV 32 [97]), (tV 32 [98])]), z0⟩], 0, 1, 1, 0⟩,
  ⟨bs [115, 104, 108], 4227858432, 335544320, [⟨bs [100], 1, 0, 0, [⟨22, 4⟩], -1⟩, ⟨bs [97], 1, 0, 0, [⟨18, 4⟩], -1⟩, ⟨bs [98], 1, 0, 0, [⟨14, 4⟩], -1⟩], [⟨1, 0, 0, z0, (tN 11 32 [(tV 32 [97]), (tV 32 [98])]), z0⟩], 0, 1, 1, 0⟩,
  ⟨bs [115, 104, 114], 4227858432, 402653184, [⟨bs [100], 1, 0, 0, [⟨22, 4⟩], -1⟩, ⟨bs [97], 1, 0, 0, [⟨18, 4⟩], -1⟩, ⟨bs [98], 1, 0, 0, [⟨14, 4⟩], -1⟩], [⟨1, 0, 0, z0, (tN 12 32 [(tV 32 [97]), (tV 32 [98])]), z0⟩], 0, 1, 1, 0⟩,
  ⟨bs [115, 97, 114], 4227858432, 469762048, [⟨bs [100], 1, 0, 0, [⟨22, 4⟩], -1⟩, ⟨bs [97], 1, 0, 0, [⟨18, 4⟩], -1⟩, ⟨bs [98], 1, 0, 0, [⟨14, 4⟩], -1⟩], [⟨1, 0, 0, z0, (tN 13 32 [(tV 32 [97]), (tV 32 [98])]), z0⟩], 0, 1, 1, 0⟩,
  ⟨bs [109, 117, 108], 4227858432, 536870912, [⟨bs [100], 1, 0, 0, [⟨22, 4⟩], -1⟩, ⟨bs [97], 1, 0, 0, [⟨18, 4⟩], -1⟩, ⟨bs [98], 1, 0, 0, [⟨14, 4⟩], -1⟩], [⟨1, 0, 0, z0, (tN 7 32 [(tV 32 [97]), (tV 32 [98])]), z0⟩], 2, 1, 4, 0⟩,
  ⟨bs [117, 100, 105, 118], 4227858432, 603979776, [⟨bs [100], 1, 0, 0, [⟨22, 4⟩], -1⟩, ⟨bs [97], 1, 0, 0, [⟨18, 4⟩], -1⟩, ⟨bs [98], 1, 0, 0, [⟨14, 4⟩], -1⟩], [⟨1, 0, 0, z0, (tN 14 32 [(tV 32 [97]), (tV 32 [98])]), z0⟩], 2, 8, 8, 0⟩,
  ⟨bs [117, 114, 101, 109], 4227858432, 671088640, [⟨bs [100], 1, 0, 0, [⟨22, 4⟩], -1⟩, ⟨bs [97], 1, 0, 0, [⟨18, 4⟩], -1⟩, ⟨bs [98], 1, 0, 0, [⟨14, 4⟩], -1⟩], [⟨1, 0, 0, z0, (tN 15 32 [(tV 32 [97]), (tV 32 [98])]), z0⟩], 2, 8, 8, 0⟩,
  ⟨bs [97, 100, 100, 105], 4227858432, 738197504, [⟨bs [100], 1, 0, 0, [⟨22, 4⟩], -1⟩, ⟨bs [97], 1, 0, 0, [⟨18, 4⟩], -1⟩, ⟨bs [110], 2, 0, 0, [⟨0, 16⟩], -1⟩], [⟨1, 0, 0, z0, (tN 5 32 [(tV 32 [97]), (tV 32 [110])]), z0⟩], 0, 1, 1, 0⟩,
  ⟨bs [97, 110, 100, 105], 4227858432, 805306368, [⟨bs [100], 1, 0, 0, [⟨22, 4⟩], -1⟩, ⟨bs [97], 1, 0, 0, [⟨18, 4⟩], -1⟩, ⟨bs [110], 3, 0, 0, [⟨0, 16⟩], -1⟩], [⟨1, 0, 0, z0, (tN 8 32 [(tV 32 [97]), (tV 32 [110])]), z0⟩], 0, 1, 1, 0⟩,
  ⟨bs [111, 114, 105], 4227858432, 872415232, [⟨bs [100], 1, 0, 0, [⟨22, 4⟩], -1⟩, ⟨bs [97], 1, 0, 0, [⟨18, 4⟩], -1⟩, ⟨bs [110], 3, 0, 0, [⟨0, 16⟩], -1⟩], [⟨1, 0, 0, z0, (tN 9 32 [(tV 32 [97]), (tV 32 [110])]), z0⟩], 0, 1, 1, 0⟩,
  ⟨bs [120, 111, 114, 105], 4227858432, 939524096, [⟨bs [100], 1, 0, 0, [⟨22, 4⟩], -1⟩, ⟨bs [97], 1, 0, 0, [⟨18, 4⟩], -1⟩, ⟨bs [110], 3, 0, 0, [⟨0, 16⟩], -1⟩], [⟨1, 0, 0, z0, (tN 10 32 [(tV 32 [97]), (tV 32 [110])]), z0⟩], 0, 1, 1, 0⟩,
  ⟨bs [115, 104, 108, 105], 4227858432, 1006632960, [⟨bs [100], 1, 0, 0, [⟨22, 4⟩], -1⟩, ⟨bs [97], 1, 0, 0, [⟨18, 4⟩], -1⟩, ⟨bs [110], 3, 0, 0, [⟨0, 5⟩], -1⟩], [⟨1, 0, 0, z0, (tN 11 32 [(tV 32 [97]), (tV 32 [110])]), z0⟩], 0, 1, 1, 0⟩,
  ⟨bs [115, 104, 114, 105], 4227858432, 1073741824, [⟨bs [100], 1, 0, 0, [⟨22, 4⟩], -1⟩, ⟨bs [97], 1, 0, 0, [⟨18, 4⟩], -1⟩, ⟨bs [110], 3, 0, 0, [⟨0, 5⟩], -1⟩], [⟨1, 0, 0, z0, (tN 12 32 [(tV 32 [97]), (tV 32 [110])]), z0⟩], 0, 1, 1, 0⟩,
  ⟨bs [115, 97, 114, 105], 4227858432, 1140850688, [⟨bs [100], 1, 0, 0, [⟨22, 4⟩], -1⟩, ⟨bs [97], 1, 0, 0, [⟨18, 4⟩], -1⟩, ⟨bs [110], 3, 0, 0, [⟨0, 5⟩], -1⟩], [⟨1, 0, 0, z0, (tN 13 32 [(tV 32 [97]), (tV 32 [110])]), z0⟩], 0, 1, 1, 0⟩,
  ⟨bs [108, 117, 105], 4227858432, 1207959552, [⟨bs [100], 1, 0, 0, [⟨22, 4⟩], -1⟩, ⟨bs [110], 3, 0, 0, [⟨0, 16⟩], -1⟩], [⟨1, 0, 0, z0, (tN 11 32 [(tV 32 [110]), (.mk 1 32 16 ⟨#[]⟩ 0 [])]), z0⟩], 0, 1, 1, 0⟩,
  ⟨bs [108, 119], 4227858432, 1275068416, [⟨bs [100], 1, 0, 0, [⟨22, 4⟩], -1⟩, ⟨bs [97], 1, 0, 0, [⟨18, 4⟩], -1⟩, ⟨bs [110], 2, 0, 0, [⟨0, 16⟩], -1⟩], [⟨1, 0, 0, z0, (tN 24 32 [(tN 5 32 [(tV 32 [97]), (tV 32 [110])])]), z0⟩], 1, 1, 2, 0⟩,
  ⟨bs [108, 98], 4227858432, 1342177280, [⟨bs [100], 1, 0, 0, [⟨22, 4⟩], -1⟩, ⟨bs [97], 1, 0, 0, [⟨18, 4⟩], -1⟩, ⟨bs [110], 2, 0, 0, [⟨0, 16⟩], -1⟩], [⟨1, 0, 0, z0, (tN 23 32 [(tN 24 8 [(tN 5 32 [(tV 32 [97]), (tV 32 [110])])])]), z0⟩], 1, 1, 2, 0⟩,
  ⟨bs [108, 98, 117], 4227858432, 1409286144, [⟨bs [100], 1, 0, 0, [⟨22, 4⟩], -1⟩, ⟨bs [97], 1, 0, 0, [⟨18, 4⟩], -1⟩, ⟨bs [110], 2, 0, 0, [⟨0, 16⟩], -1⟩], [⟨1, 0, 0, z0, (tN 22 32 [(tN 24 8 [(tN 5 32 [(tV 32 [97]), (tV 32 [110])])])]), z0⟩], 1, 1, 2, 0⟩,
  ⟨bs [108, 104, 117], 4227858432, 1476395008, [⟨bs [100], 1, 0, 0, [⟨22, 4⟩], -1⟩, ⟨bs [97], 1, 0, 0, [⟨18, 4⟩], -1⟩, ⟨bs [110], 2, 0, 0, [⟨0, 16⟩], -1⟩], [⟨1, 0, 0, z0, (tN 22 32 [(tN 24 16 [(tN 5 32 [(tV 32 [97]), (tV 32 [110])])])]), z0⟩], 1, 1, 2, 0⟩,
  ⟨bs [115, 119], 4227858432, 1543503872, [⟨bs [100], 1, 0, 0, [⟨22, 4⟩], -1⟩, ⟨bs [97], 1, 0, 0, [⟨18, 4⟩], -1⟩, ⟨bs [110], 2, 0, 0, [⟨0, 16⟩], -1⟩], [⟨2, 0, 0, (tN 5 32 [(tV 32 [97]), (tV 32 [110])]), (tV 32 [100]), z0⟩], 1, 1, 1, 0⟩,
  ⟨bs [115, 104], 4227858432, 1610612736, [⟨bs [100], 1, 0, 0, [⟨22, 4⟩], -1⟩, ⟨bs [97], 1, 0, 0, [⟨18, 4⟩], -1⟩, ⟨bs [110], 2, 0, 0, [⟨0, 16⟩], -1⟩], [⟨2, 0, 0, (tN 5 32 [(tV 32 [97]), (tV 32 [110])]), (tN 21 16 [(tV 32 [100])]), z0⟩], 1, 1, 1, 0⟩,
  ⟨bs [115, 98], 4227858432, 1677721600, [⟨bs [100], 1, 0, 0, [⟨22, 4⟩], -1⟩, ⟨bs [97], 1, 0, 0, [⟨18, 4⟩], -1⟩, ⟨bs [110], 2, 0, 0, [⟨0, 16⟩], -1⟩], [⟨2, 0, 0, (tN 5 32 [(tV 32 [97]), (tV 32 [110])]), (tN 21 8 [(tV 32 [100])]), z0⟩], 1, 1, 1, 0⟩,
  ⟨bs [101, 113], 4227858432, 1744830464, [⟨bs [100], 1, 0, 0, [⟨22, 4⟩], -1⟩, ⟨bs [97], 1, 0, 0, [⟨18, 4⟩], -1⟩, ⟨bs [98], 1, 0, 0, [⟨14, 4⟩], -1⟩], [⟨1, 0, 0, z0, (tN 22 32 [(tN 16 1 [(tV 32 [97]), (tV 32 [98])])]), z0⟩], 0, 1, 1, 0⟩,
  ⟨bs [117, 108, 116], 4227858432, 1811939328, [⟨bs [100], 1, 0, 0, [⟨22, 4⟩], -1⟩, ⟨bs [97], 1, 0, 0, [⟨18, 4⟩], -1⟩, ⟨bs [98], 1, 0, 0, [⟨14, 4⟩], -1⟩], [⟨1, 0, 0, z0, (tN 22 32 [(tN 17 1 [(tV 32 [97]), (tV 32 [98])])]), z0⟩], 0, 1, 1, 0⟩,
  ⟨bs [115, 108, 116], 4227858432, 1879048192, [⟨bs [100], 1, 0, 0, [⟨22, 4⟩], -1⟩, ⟨bs [97], 1, 0, 0, [⟨18, 4⟩], -1⟩, ⟨bs [98], 1, 0, 0, [⟨14, 4⟩], -1⟩], [⟨1, 0, 0, z0, (tN 22 32 [(tN 18 1 [(tV 32 [97]), (tV 32 [98])])]), z0⟩], 0, 1, 1, 0⟩,
  ⟨bs [98, 101, 113], 4227858432, 1946157056, [⟨bs [97], 1, 0, 0, [⟨18, 4⟩], -1⟩, ⟨bs [98], 1, 0, 0, [⟨14, 4⟩], -1⟩, ⟨bs [116, 111], 4, 0, 0, [⟨0, 14⟩], -1⟩], [⟨3, 0, 0, z0, (tV 32 [116, 111]), (tN 16 1 [(tV 32 [97]), (tV 32 [98])])⟩], 0, 1, 1, 1⟩,
  ⟨bs [98, 110, 101], 4227858432, 2013265920, [⟨bs [97], 1, 0, 0, [⟨18, 4⟩], -1⟩, ⟨bs [98], 1, 0, 0, [⟨14, 4⟩], -1⟩, ⟨bs [116, 111], 4, 0, 0, [⟨0, 14⟩], -1⟩], [⟨3, 0, 0, z0, (tV 32 [116, 111]), (tN 3 1 [(tN 16 1 [(tV 32 [97]), (tV 32 [98])])])⟩], 0, 1, 1, 1⟩,
  ⟨bs [98, 108, 116], 4227858432, 2080374784, [⟨bs [97], 1, 0, 0, [⟨18, 4⟩], -1⟩, ⟨bs [98], 1, 0, 0, [⟨14, 4⟩], -1⟩, ⟨bs [116, 111], 4, 0, 0, [⟨0, 14⟩], -1⟩], [⟨3, 0, 0, z0, (tV 32 [116, 111]), (tN 18 1 [(tV 32 [97]), (tV 32 [98])])⟩], 0, 1, 1, 1⟩,
  ⟨bs [106, 117, 109, 112], 4227858432, 2147483648, [⟨bs [116, 111], 4, 0, 0, [⟨0, 26⟩], -1⟩], [⟨3, 0, 0, z0, (tV 32 [116, 111]), z0⟩], 0, 1, 1, 1⟩,
  ⟨bs [99, 97, 108, 108], 4227858432, 2214592512, [⟨bs [116, 111], 4, 0, 0, [⟨0, 26⟩], -1⟩], [⟨1, (-1), 15, z0, (tN 5 32 [(tV 32 [112, 99]), (.mk 1 32 8 ⟨#[]⟩ 0 [])]), z0⟩, ⟨3, 0, 0, z0, (tV 32 [116, 111]), z0⟩], 0, 1, 1, 1⟩,
  ⟨bs [106, 114], 4227858432, 2281701376, [⟨bs [97], 1, 0, 0, [⟨18, 4⟩], -1⟩], [⟨3, 0, 0, z0, (tV 32 [97]), z0⟩], 0, 1, 1, 1⟩,
  ⟨bs [116, 114, 97, 112], 4227858432, 2348810240, [⟨bs [110], 3, 0, 0, [⟨0, 16⟩], -1⟩], [⟨4, 0, 0, z0, (tV 32 [110]), z0⟩], 0, 1, 1, 0⟩,
  ⟨bs [116, 101, 108, 108], 4227858432, 2415919104, [⟨bs [97], 1, 0, 0, [⟨18, 4⟩], -1⟩], [⟨4, 0, 0, z0, (tN 20 33 [(.mk 1 1 1 ⟨#[]⟩ 0 []), (tV 32 [97])]), z0⟩], 0, 1, 1, 0⟩,
  ⟨bs [104, 97, 108, 116], 4227858432, 2483027968, [⟨bs [97], 1, 0, 0, [⟨18, 4⟩], -1⟩], [⟨4, 0, 0, z0, (tV 32 [97]), z0⟩], 0, 1, 1, 0⟩,
  ⟨bs [110, 111, 112], 4227858432, 2550136832, [], [], 0, 1, 1, 0⟩,
  ⟨bs [108, 105], 4227858432, 2617245696, [⟨bs [100], 1, 0, 0, [⟨22, 4⟩], -1⟩, ⟨bs [110], 2, 0, 0, [⟨0, 16⟩], -1⟩], [⟨1, 0, 0, z0, (tV 32 [110]), z0⟩], 0, 1, 1, 0⟩]⟩
def gm1 : Mc := ⟨bs [102, 108, 97, 103, 115], 2, 16, [⟨bs [97, 120], 16, (-1), 0⟩, ⟨bs [98, 120], 16, (-1), 0⟩, ⟨bs [99, 120], 16, (-1), 0⟩, ⟨bs [100, 120], 16, (-1), 0⟩, ⟨bs [115, 105], 16, (-1), 0⟩, ⟨bs [100, 105], 16, (-1), 0⟩, ⟨bs [98, 112], 16, (-1), 0⟩, ⟨bs [115, 112], 16, (-1), 0⟩, ⟨bs [97, 108], 8, 0, 0⟩, ⟨bs [98, 108], 8, 1, 0⟩, ⟨bs [99, 108], 8, 2, 0⟩, ⟨bs [100, 108], 8, 3, 0⟩, ⟨bs [97, 104], 8, 0, 8⟩, ⟨bs [98, 104], 8, 1, 8⟩, ⟨bs [99, 104], 8, 2, 8⟩, ⟨bs [100, 104], 8, 3, 8⟩, ⟨bs [122, 102], 1, (-1), 0⟩, ⟨bs [99, 102], 1, (-1), 0⟩, ⟨bs [115, 102], 1, (-1), 0⟩], [⟨bs [119], [0, 1, 2, 3, 4, 5, 6, 7]⟩, ⟨bs [98], [8, 9, 10, 11, 12, 13, 14, 15]⟩], [⟨bs [99, 111, 114, 101], 1⟩], [
  ⟨bs [109, 111, 118], 64512, 0, [⟨bs [100], 1, 0, 0, [⟨7, 3⟩], -1⟩, ⟨bs [115], 1, 0, 0, [⟨4, 3⟩], -1⟩], [⟨1, 0, 0, z0, (tV 16 [115]), z0⟩], 0, 1, 1, 0⟩,
  ⟨bs [109, 111, 118, 105], 64512, 1024, [⟨bs [100], 1, 0, 0, [⟨7, 3⟩], -1⟩, ⟨bs [110], 2, 0, 0, [⟨0, 7⟩], -1⟩], [⟨1, 0, 0, z0, (tV 16 [110]), z0⟩], 0, 1, 1, 0⟩,
  ⟨bs [109, 111, 118, 104], 64512, 2048, [⟨bs [100], 1, 0, 0, [⟨7, 3⟩], -1⟩, ⟨bs [97], 1, 0, 0, [], 0⟩, ⟨bs [110], 2, 0, 0, [⟨0, 7⟩], -1⟩], [⟨1, 0, 0, z0, (tN 9 16 [(tN 11 16 [(tV 16 [110]), (.mk 1 16 9 ⟨#[]⟩ 0 [])]), (tN 8 16 [(tV 16 [97]), (.mk 1 16 511 ⟨#[]⟩ 0 [])])]), z0⟩], 0, 1, 1, 0⟩,
  ⟨bs [97, 100, 100], 64512, 3072, [⟨bs [100], 1, 0, 0, [⟨7, 3⟩], -1⟩, ⟨bs [97], 1, 0, 0, [], 0⟩, ⟨bs [115], 1, 0, 0, [⟨4, 3⟩], -1⟩], [⟨1, 0, 0, z0, (tN 5 16 [(tV 16 [97]), (tV 16 [115])]), z0⟩, ⟨1, (-1), 16, z0, (tN 16 1 [(tN 5 16 [(tV 16 [97]), (tV 16 [115])]), (tN 1 16 [])]), z0⟩, ⟨1, (-1), 17, z0, (tN 17 1 [(tN 5 16 [(tV 16 [97]), (tV 16 [115])]), (tV 16 [97])]), z0⟩, ⟨1, (-1), 18, z0, (tN 18 1 [(tN 5 16 [(tV 16 [97]), (tV 16 [115])]), (tN 1 16 [])]), z0⟩], 0, 1, 1, 0⟩,
  ⟨bs [115, 117, 98], 64512, 4096, [⟨bs [100], 1, 0, 0, [⟨7, 3⟩], -1⟩, ⟨bs [97], 1, 0, 0, [], 0⟩, ⟨bs [115], 1, 0, 0, [⟨4, 3⟩], -1⟩], [⟨1, 0, 0, z0, (tN 6 16 [(tV 16 [97]), (tV 16 [115])]), z0⟩, ⟨1, (-1), 16, z0, (tN 16 1 [(tV 16 [97]), (tV 16 [115])]), z0⟩, ⟨1, (-1), 17, z0, (tN 17 1 [(tV 16 [97]), (tV 16 [115])]), z0⟩, ⟨1, (-1), 18, z0, (tN 18 1 [(tV 16 [97]), (tV 16 [115])]), z0⟩], 0, 1, 1, 0⟩,
  ⟨bs [97, 110, 100], 64512, 5120, [⟨bs [100], 1, 0, 0, [⟨7, 3⟩], -1⟩, ⟨bs [97], 1, 0, 0, [], 0⟩, ⟨bs [115], 1, 0, 0, [⟨4, 3⟩], -1⟩], [⟨1, 0, 0, z0, (tN 8 16 [(tV 16 [97]), (tV 16 [115])]), z0⟩, ⟨1, (-1), 16, z0, (tN 16 1 [(tN 8 16 [(tV 16 [97]), (tV 16 [115])]), (tN 1 16 [])]), z0⟩], 0, 1, 1, 0⟩,
  ⟨bs [111, 114], 64512, 6144, [⟨bs [100], 1, 0, 0, [⟨7, 3⟩], -1⟩, ⟨bs [97], 1, 0, 0, [], 0⟩, ⟨bs [115], 1, 0, 0, [⟨4, 3⟩], -1⟩], [⟨1, 0, 0, z0, (tN 9 16 [(tV 16 [97]), (tV 16 [115])]), z0⟩, ⟨1, (-1), 16, z0, (tN 16 1 [(tN 9 16 [(tV 16 [97]), (tV 16 [115])]), (tN 1 16 [])]), z0⟩], 0, 1, 1, 0⟩,
  ⟨bs [120, 111, 114], 64512, 7168, [⟨bs [100], 1, 0, 0, [⟨7, 3⟩], -1⟩, ⟨bs [97], 1, 0, 0, [], 0⟩, ⟨bs [115], 1, 0, 0, [⟨4, 3⟩], -1⟩], [⟨1, 0, 0, z0, (tN 10 16 [(tV 16 [97]), (tV 16 [115])]), z0⟩, ⟨1, (-1), 16, z0, (tN 16 1 [(tN 10 16 [(tV 16 [97]), (tV 16 [115])]), (tN 1 16 [])]), z0⟩], 0, 1, 1, 0⟩,
  ⟨bs [97, 100, 100, 105], 64512, 8192, [⟨bs [100], 1, 0, 0, [⟨7, 3⟩], -1⟩, ⟨bs [97], 1, 0, 0, [], 0⟩, ⟨bs [110], 2, 0, 0, [⟨0, 7⟩], -1⟩], [⟨1, 0, 0, z0, (tN 5 16 [(tV 16 [97]), (tV 16 [110])]), z0⟩, ⟨1, (-1), 16, z0, (tN 16 1 [(tN 5 16 [(tV 16 [97]), (tV 16 [110])]), (tN 1 16 [])]), z0⟩], 0, 1, 1, 0⟩,
  ⟨bs [115, 104, 108], 64512, 9216, [⟨bs [100], 1, 0, 0, [⟨7, 3⟩], -1⟩, ⟨bs [97], 1, 0, 0, [], 0⟩, ⟨bs [115], 1, 0, 0, [⟨4, 3⟩], -1⟩], [⟨1, 0, 0, z0, (tN 11 16 [(tV 16 [97]), (tV 16 [115])]), z0⟩], 0, 1, 1, 0⟩,
  ⟨bs [115, 104, 114], 64512, 10240, [⟨bs [100], 1, 0, 0, [⟨7, 3⟩], -1⟩, ⟨bs [97], 1, 0, 0, [], 0⟩, ⟨bs [115], 1, 0, 0, [⟨4, 3⟩], -1⟩], [⟨1, 0, 0, z0, (tN 12 16 [(tV 16 [97]), (tV 16 [115])]), z0⟩], 0, 1, 1, 0⟩,
  ⟨bs [115, 97, 114], 64512, 11264, [⟨bs [100], 1, 0, 0, [⟨7, 3⟩], -1⟩, ⟨bs [97], 1, 0, 0, [], 0⟩, ⟨bs [115], 1, 0, 0, [⟨4, 3⟩], -1⟩], [⟨1, 0, 0, z0, (tN 13 16 [(tV 16 [97]), (tV 16 [115])]), z0⟩], 0, 1, 1, 0⟩,
  ⟨bs [115, 104, 108, 105], 64512, 12288, [⟨bs [100], 1, 0, 0, [⟨7, 3⟩], -1⟩, ⟨bs [97], 1, 0, 0, [], 0⟩, ⟨bs [110], 3, 0, 0, [⟨0, 4⟩], -1⟩], [⟨1, 0, 0, z0, (tN 11 16 [(tV 16 [97]), (tV 16 [110])]), z0⟩], 0, 1, 1, 0⟩,
  ⟨bs [115, 104, 114, 105], 64512, 13312, [⟨bs [100], 1, 0, 0, [⟨7, 3⟩], -1⟩, ⟨bs [97], 1, 0, 0, [], 0⟩, ⟨bs [110], 3, 0, 0, [⟨0, 4⟩], -1⟩], [⟨1, 0, 0, z0, (tN 12 16 [(tV 16 [97]), (tV 16 [110])]), z0⟩], 0, 1, 1, 0⟩,
  ⟨bs [110, 101, 103], 64512, 14336, [⟨bs [100], 1, 0, 0, [⟨7, 3⟩], -1⟩, ⟨bs [97], 1, 0, 0, [], 0⟩], [⟨1, 0, 0, z0, (tN 4 16 [(tV 16 [97])]), z0⟩], 0, 1, 1, 0⟩,
  ⟨bs [110, 111, 116], 64512, 15360, [⟨bs [100], 1, 0, 0, [⟨7, 3⟩], -1⟩, ⟨bs [97], 1, 0, 0, [], 0⟩], [⟨1, 0, 0, z0, (tN 3 16 [(tV 16 [97])]), z0⟩], 0, 1, 1, 0⟩,
  ⟨bs [109, 117, 108], 64512, 16384, [⟨bs [100], 1, 0, 0, [⟨7, 3⟩], -1⟩, ⟨bs [97], 1, 0, 0, [], 0⟩, ⟨bs [115], 1, 0, 0, [⟨4, 3⟩], -1⟩], [⟨1, 0, 0, z0, (tN 7 16 [(tV 16 [97]), (tV 16 [115])]), z0⟩], 0, 1, 6, 0⟩,
  ⟨bs [117, 100, 105, 118], 64512, 17408, [⟨bs [100], 1, 0, 0, [⟨7, 3⟩], -1⟩, ⟨bs [97], 1, 0, 0, [], 0⟩, ⟨bs [115], 1, 0, 0, [⟨4, 3⟩], -1⟩], [⟨1, 0, 0, z0, (tN 14 16 [(tV 16 [97]), (tV 16 [115])]), z0⟩], 0, 1, 12, 0⟩,
  ⟨bs [117, 114, 101, 109], 64512, 18432, [⟨bs [100], 1, 0, 0, [⟨7, 3⟩], -1⟩, ⟨bs [97], 1, 0, 0, [], 0⟩, ⟨bs [115], 1, 0, 0, [⟨4, 3⟩], -1⟩], [⟨1, 0, 0, z0, (tN 15 16 [(tV 16 [97]), (tV 16 [115])]), z0⟩], 0, 1, 12, 0⟩,
  ⟨bs [99, 109, 112], 64512, 19456, [⟨bs [100], 1, 0, 0, [⟨7, 3⟩], -1⟩, ⟨bs [115], 1, 0, 0, [⟨4, 3⟩], -1⟩], [⟨1, (-1), 16, z0, (tN 16 1 [(tV 16 [100]), (tV 16 [115])]), z0⟩, ⟨1, (-1), 17, z0, (tN 17 1 [(tV 16 [100]), (tV 16 [115])]), z0⟩, ⟨1, (-1), 18, z0, (tN 18 1 [(tV 16 [100]), (tV 16 [115])]), z0⟩], 0, 1, 1, 0⟩,
  ⟨bs [108, 100], 64512, 20480, [⟨bs [100], 1, 0, 0, [⟨7, 3⟩], -1⟩, ⟨bs [115], 1, 0, 0, [⟨4, 3⟩], -1⟩, ⟨bs [110], 3, 0, 1, [⟨0, 4⟩], -1⟩], [⟨1, 0, 0, z0, (tN 24 16 [(tN 5 16 [(tV 16 [115]), (tV 16 [110])])]), z0⟩], 0, 1, 2, 0⟩,
  ⟨bs [115, 116], 64512, 21504, [⟨bs [100], 1, 0, 0, [⟨7, 3⟩], -1⟩, ⟨bs [115], 1, 0, 0, [⟨4, 3⟩], -1⟩, ⟨bs [110], 3, 0, 1, [⟨0, 4⟩], -1⟩], [⟨2, 0, 0, (tN 5 16 [(tV 16 [115]), (tV 16 [110])]), (tV 16 [100]), z0⟩], 0, 1, 1, 0⟩,
  ⟨bs [108, 100, 98], 64512, 22528, [⟨bs [100], 1, 1, 0, [⟨7, 3⟩], -1⟩, ⟨bs [115], 1, 0, 0, [⟨4, 3⟩], -1⟩, ⟨bs [110], 3, 0, 0, [⟨0, 4⟩], -1⟩], [⟨1, 0, 0, z0, (tN 24 8 [(tN 5 16 [(tV 16 [115]), (tV 16 [110])])]), z0⟩], 0, 1, 2, 0⟩,
  ⟨bs [115, 116, 98], 64512, 23552, [⟨bs [100], 1, 1, 0, [⟨7, 3⟩], -1⟩, ⟨bs [115], 1, 0, 0, [⟨4, 3⟩], -1⟩, ⟨bs [110], 3, 0, 0, [⟨0, 4⟩], -1⟩], [⟨2, 0, 0, (tN 5 16 [(tV 16 [115]), (tV 16 [110])]), (tV 8 [100]), z0⟩], 0, 1, 1, 0⟩,
  ⟨bs [109, 111, 118, 98], 64512, 24576, [⟨bs [100], 1, 1, 0, [⟨7, 3⟩], -1⟩, ⟨bs [115], 1, 1, 0, [⟨4, 3⟩], -1⟩], [⟨1, 0, 0, z0, (tV 8 [115]), z0⟩], 0, 1, 1, 0⟩,
  ⟨bs [97, 100, 100, 98], 64512, 25600, [⟨bs [100], 1, 1, 0, [⟨7, 3⟩], -1⟩, ⟨bs [97], 1, 1, 0, [], 0⟩, ⟨bs [115], 1, 1, 0, [⟨4, 3⟩], -1⟩], [⟨1, 0, 0, z0, (tN 5 8 [(tV 8 [97]), (tV 8 [115])]), z0⟩], 0, 1, 1, 0⟩,
  ⟨bs [122, 101, 120, 116], 64512, 26624, [⟨bs [100], 1, 0, 0, [⟨7, 3⟩], -1⟩, ⟨bs [115], 1, 1, 0, [⟨4, 3⟩], -1⟩], [⟨1, 0, 0, z0, (tN 22 16 [(tV 8 [115])]), z0⟩], 0, 1, 1, 0⟩,
  ⟨bs [115, 101, 120, 116], 64512, 27648, [⟨bs [100], 1, 0, 0, [⟨7, 3⟩], -1⟩, ⟨bs [115], 1, 1, 0, [⟨4, 3⟩], -1⟩], [⟨1, 0, 0, z0, (tN 23 16 [(tV 8 [115])]), z0⟩], 0, 1, 1, 0⟩,
  ⟨bs [115, 101, 116, 122], 64512, 28672, [⟨bs [100], 1, 0, 0, [⟨7, 3⟩], -1⟩], [⟨1, 0, 0, z0, (tN 22 16 [(tV 1 [114, 46, 122, 102])]), z0⟩], 0, 1, 1, 0⟩,
  ⟨bs [115, 101, 116, 99], 64512, 29696, [⟨bs [100], 1, 0, 0, [⟨7, 3⟩], -1⟩], [⟨1, 0, 0, z0, (tN 22 16 [(tV 1 [114, 46, 99, 102])]), z0⟩], 0, 1, 1, 0⟩,
  ⟨bs [115, 101, 116, 115], 64512, 30720, [⟨bs [100], 1, 0, 0, [⟨7, 3⟩], -1⟩], [⟨1, 0, 0, z0, (tN 22 16 [(tV 1 [114, 46, 115, 102])]), z0⟩], 0, 1, 1, 0⟩,
  ⟨bs [106, 122], 64512, 31744, [⟨bs [116, 111], 4, 0, 0, [⟨0, 10⟩], -1⟩], [⟨3, 0, 0, z0, (tV 16 [116, 111]), (tV 1 [114, 46, 122, 102])⟩], 0, 1, 1, 0⟩,
  ⟨bs [106, 99], 64512, 32768, [⟨bs [116, 111], 4, 0, 0, [⟨0, 10⟩], -1⟩], [⟨3, 0, 0, z0, (tV 16 [116, 111]), (tV 1 [114, 46, 99, 102])⟩], 0, 1, 1, 0⟩,
  ⟨bs [106, 115], 64512, 33792, [⟨bs [116, 111], 4, 0, 0, [⟨0, 10⟩], -1⟩], [⟨3, 0, 0, z0, (tV 16 [116, 111]), (tV 1 [114, 46, 115, 102])⟩], 0, 1, 1, 0⟩,
  ⟨bs [106, 110, 122], 64512, 34816, [⟨bs [116, 111], 4, 0, 0, [⟨0, 10⟩], -1⟩], [⟨3, 0, 0, z0, (tV 16 [116, 111]), (tN 3 1 [(tV 1 [114, 46, 122, 102])])⟩], 0, 1, 1, 0⟩,
  ⟨bs [106, 109, 112], 64512, 35840, [⟨bs [116, 111], 4, 0, 0, [⟨0, 10⟩], -1⟩], [⟨3, 0, 0, z0, (tV 16 [116, 111]), z0⟩], 0, 1, 1, 0⟩,
  ⟨bs [106, 114], 64512, 36864, [⟨bs [115], 1, 0, 0, [⟨4, 3⟩], -1⟩], [⟨3, 0, 0, z0, (tV 16 [115]), z0⟩], 0, 1, 1, 0⟩,
  ⟨bs [99, 97, 108, 108], 64512, 37888, [⟨bs [116, 111], 4, 0, 0, [⟨0, 10⟩], -1⟩], [⟨2, 0, 0, (tN 6 16 [(tV 16 [114, 46, 115, 112]), (.mk 1 16 2 ⟨#[]⟩ 0 [])]), (tN 5 16 [(tV 16 [112, 99]), (.mk 1 16 2 ⟨#[]⟩ 0 [])]), z0⟩, ⟨1, (-1), 7, z0, (tN 6 16 [(tV 16 [114, 46, 115, 112]), (.mk 1 16 2 ⟨#[]⟩ 0 [])]), z0⟩, ⟨3, 0, 0, z0, (tV 16 [116, 111]), z0⟩], 0, 1, 1, 0⟩,
  ⟨bs [114, 101, 116], 64512, 38912, [], [⟨1, (-1), 7, z0, (tN 5 16 [(tV 16 [114, 46, 115, 112]), (.mk 1 16 2 ⟨#[]⟩ 0 [])]), z0⟩, ⟨3, 0, 0, z0, (tN 24 16 [(tV 16 [114, 46, 115, 112])]), z0⟩], 0, 1, 2, 0⟩,
  ⟨bs [112, 117, 115, 104], 64512, 39936, [⟨bs [115], 1, 0, 0, [⟨4, 3⟩], -1⟩], [⟨2, 0, 0, (tN 6 16 [(tV 16 [114, 46, 115, 112]), (.mk 1 16 2 ⟨#[]⟩ 0 [])]), (tV 16 [115]), z0⟩, ⟨1, (-1), 7, z0, (tN 6 16 [(tV 16 [114, 46, 115, 112]), (.mk 1 16 2 ⟨#[]⟩ 0 [])]), z0⟩], 0, 1, 1, 0⟩,
  ⟨bs [112, 111, 112], 64512, 40960, [⟨bs [100], 1, 0, 0, [⟨7, 3⟩], -1⟩], [⟨1, 0, 0, z0, (tN 24 16 [(tV 16 [114, 46, 115, 112])]), z0⟩, ⟨1, (-1), 7, z0, (tN 5 16 [(tV 16 [114, 46, 115, 112]), (.mk 1 16 2 ⟨#[]⟩ 0 [])]), z0⟩], 0, 1, 2, 0⟩,
  ⟨bs [116, 114, 97, 112], 64512, 41984, [⟨bs [110], 3, 0, 0, [⟨0, 4⟩], -1⟩], [⟨4, 0, 0, z0, (tV 16 [110]), z0⟩], 0, 1, 1, 0⟩,
  ⟨bs [116, 101, 108, 108], 64512, 43008, [⟨bs [115], 1, 0, 0, [⟨4, 3⟩], -1⟩], [⟨4, 0, 0, z0, (tN 20 17 [(.mk 1 1 1 ⟨#[]⟩ 0 []), (tV 16 [115])]), z0⟩], 0, 1, 1, 0⟩,
  ⟨bs [104, 97, 108, 116], 64512, 44032, [⟨bs [115], 1, 0, 0, [⟨4, 3⟩], -1⟩], [⟨4, 0, 0, z0, (tV 16 [115]), z0⟩], 0, 1, 1, 0⟩,
  ⟨bs [110, 111, 112], 64512, 45056, [], [], 0, 1, 1, 0⟩,
  ⟨bs [101, 113], 64512, 46080, [⟨bs [100], 1, 0, 0, [⟨7, 3⟩], -1⟩, ⟨bs [97], 1, 0, 0, [], 0⟩, ⟨bs [115], 1, 0, 0, [⟨4, 3⟩], -1⟩], [⟨1, 0, 0, z0, (tN 22 16 [(tN 16 1 [(tV 16 [97]), (tV 16 [115])])]), z0⟩], 0, 1, 1, 0⟩,
  ⟨bs [117, 108, 116], 64512, 47104, [⟨bs [100], 1, 0, 0, [⟨7, 3⟩], -1⟩, ⟨bs [97], 1, 0, 0, [], 0⟩, ⟨bs [115], 1, 0, 0, [⟨4, 3⟩], -1⟩], [⟨1, 0, 0, z0, (tN 22 16 [(tN 17 1 [(tV 16 [97]), (tV 16 [115])])]), z0⟩], 0, 1, 1, 0⟩,
  ⟨bs [115, 108, 116], 64512, 48128, [⟨bs [100], 1, 0, 0, [⟨7, 3⟩], -1⟩, ⟨bs [97], 1, 0, 0, [], 0⟩, ⟨bs [115], 1, 0, 0, [⟨4, 3⟩], -1⟩], [⟨1, 0, 0, z0, (tN 22 16 [(tN 18 1 [(tV 16 [97]), (tV 16 [115])])]), z0⟩], 0, 1, 1, 0⟩,
  ⟨bs [98, 114, 110, 122], 64512, 49152, [⟨bs [100], 1, 0, 0, [⟨7, 3⟩], -1⟩, ⟨bs [116, 111], 4, 0, 0, [⟨0, 7⟩], -1⟩], [⟨3, 0, 0, z0, (tV 16 [116, 111]), (tN 3 1 [(tN 16 1 [(tV 16 [100]), (tN 1 16 [])])])⟩], 0, 1, 1, 0⟩]⟩
end Go.Proofs.Dv
set_option linter.unusedVariables false
set_option maxRecDepth 100000
namespace Go.Proofs.Dv
open Go.RowKit
open Nat renaming reduceEqDiff → zA, reduceAdd → zB, reduceSub → zC, reduceLeDiff → zD, reduceLT → zE, reduceMul → zF
open Int renaming reduceToNat → zG, reduceLE → zH, reduceLT → zI
open List renaming set_cons_zero → zJ, set_cons_succ → zK
def gfs : List (Nat × IFun) := [(33, ir33), (96, ir96), (98, ir98), (132, ir132), (133, ir133), (134, ir134), (135, ir135), (136, ir136), (137, ir137), (138, ir138), (139, ir139), (140, ir140), (141, ir141), (143, ir143), (160, ir160), (161, ir161), (162, ir162)]
def gcs : List (Nat × IFun) := [(126, ir126), (127, ir127), (128, ir128), (129, ir129), (142, ir142), (159, ir159)]
def tG (G : Nat → Option (List D)) (I : Nat → List D → Option (List (List D))) (N : Nat) (fs cs : List (Nat × IFun)) : Nat → Nat → Option (List D → Option D)
  | 0, _ => none
  | k + 1, f => (lookF fs f).map fun F ds => (run ⟨G, tG G I N fs cs k, calF G (tG G I N fs cs k) I N cs 4, I⟩ N F ds [] 0).bind fun r => expo r.2.1 r.1
theorem ctx_okT {P : Program} (hm : P.follows .mixedOrders = true) {G : Nat → Option (List D)} {T : Nat → Option (List D → Option D)} {I : Nat → List D → Option (List (List D))} {N : Nat} {fs : List (Nat × IFun)} (hI : ∀ gf caps xs, I gf caps = some xs → IterOK P gf caps xs) (hT : ∀ f s, T f = some s → PureC P G f s) (hf : ∀ f F, lookF fs f = some F → fchk P f F = true) :
    ∀ k, CtxOK P ⟨G, T, calF G T I N fs k, I⟩ := by
  intro k
  induction k with
  | zero => exact ⟨hT, fun f ds hp nx d hp' nx' h => by simp [calF] at h, hI⟩
  | succ k ih =>
    refine ⟨hT, fun f ds hp nx d hp' nx' h => ?_, hI⟩
    simp only [calF] at h
    split at h
    · rename_i F hF
      have key := fun hp' nx' h => fun_ok (N := N) (C := ⟨G, T, calF G T I N fs k, I⟩) (ds := ds) (hp := hp) (nx := nx) (d := d) (hp' := hp') (nx' := nx') ih hm (hf _ _ hF) h
      revert h
      cases hr : run ⟨G, T, calF G T I N fs k, I⟩ N F ds hp nx with
      | none => intro h; simp [gcr] at h
      | some r =>
        obtain ⟨d1, hp1, nx1⟩ := r
        intro h
        simp only [gcr] at h
        split at h
        · rename_i hc
          simp only [Bool.and_eq_true] at hc
          simp only [Option.some.injEq, Prod.mk.injEq] at h
          obtain ⟨rfl, rfl, rfl⟩ := h
          exact (key hp1 nx1 hr).gc hc.1 hc.2
        · simp only [Option.some.injEq, Prod.mk.injEq] at h
          obtain ⟨rfl, rfl, rfl⟩ := h
          exact key hp1 nx1 hr
    · simp at h
theorem tG_ok {P : Program} (hm : P.follows .mixedOrders = true) {G : Nat → Option (List D)} {I : Nat → List D → Option (List (List D))} {N : Nat} {fs cs : List (Nat × IFun)} (hI : ∀ gf caps xs, I gf caps = some xs → IterOK P gf caps xs) (h1 : ∀ f F, lookF fs f = some F → fchk P f F = true) (h2 : ∀ f F, lookF cs f = some F → fchk P f F = true) :
    ∀ k f s, tG G I N fs cs k f = some s → PureC P G f s := by
  intro k
  induction k with
  | zero => intro f s h; simp [tG] at h
  | succ k ih =>
    intro f s h
    simp only [tG, Option.map_eq_some_iff] at h
    obtain ⟨F, hF, rfl⟩ := h
    refine pure_ok (N := N) (C := ⟨G, tG G I N fs cs k, calF G (tG G I N fs cs k) I N cs 4, I⟩) (ctx_okT hm hI ih h2 4) hm (h1 f F hF) fun ds r _ hr => ?_
    simp only [Option.bind_eq_some_iff] at hr
    obtain ⟨⟨d, hp', nx'⟩, e1, e2⟩ := hr
    exact ⟨d, hp', nx', e1, e2⟩
theorem g1_ev (G : Nat → Option (List D)) (I : Nat → List D → Option (List (List D))) : (((tG G I (maxLen + 11) gfs gcs 8 33).bind fun s => s [.v (.int .i64 1)]).map weak) = some (.agg gm1.d) := by kernel_rfl
theorem g0_ev (G : Nat → Option (List D)) (I : Nat → List D → Option (List (List D))) : (((tG G I (maxLen + 11) gfs gcs 8 33).bind fun s => s [.v (.int .i64 0)]).map weak) = some (.agg gm0.d) := by kernel_rfl
end Go.Proofs.Dv
set_option maxRecDepth 100000
namespace Go.Proofs.Dv
theorem gm1_ok : chkM gm1 = 0 := by kernel_rfl
theorem gm0_ok : chkM gm0 = 0 := by kernel_rfl
end Go.Proofs.Dv
set_option linter.unusedVariables false
set_option linter.unusedSimpArgs false
set_option maxRecDepth 100000
namespace Go.Proofs.Dv
open Go.RowKit
open Nat renaming reduceEqDiff → zA, reduceAdd → zB, reduceSub → zC, reduceLeDiff → zD, reduceLT → zE, reduceMul → zF
open Int renaming reduceToNat → zG, reduceLE → zH, reduceLT → zI
open List renaming set_cons_zero → zJ, set_cons_succ → zK
def I64b (x : Int) : Bool := decide (-9223372036854775808 ≤ x) && decide (x ≤ 9223372036854775807)
def U64b (x : Int) : Bool := decide (0 ≤ x) && decide (x < 18446744073709551616)
theorem I64b_ok {x : Int} (h : I64b x = true) : I64 x := by simpa [I64b, I64] using h
theorem U64b_ok {x : Int} (h : U64b x = true) : U64 x := by simpa [U64b, U64] using h
mutual
def T.twB : T → Bool
  | .mk k w b _ l s => decide (0 ≤ k) && (I64b w && (U64b b && (I64b l && T.twsB s)))
def T.twsB : List T → Bool
  | [] => true
  | t :: ts => T.twB t && T.twsB ts
end
mutual
theorem T.twB_ok : ∀ t : T, T.twB t = true → T.tw t
  | .mk k w b n l s, h => by
    simp only [T.twB, Bool.and_eq_true, decide_eq_true_eq] at h
    exact ⟨h.1, I64b_ok h.2.1, U64b_ok h.2.2.1, I64b_ok h.2.2.2.1, T.twsB_ok s h.2.2.2.2⟩
theorem T.twsB_ok : ∀ ts : List T, T.twsB ts = true → T.tws ts
  | [], _ => trivial
  | t :: ts, h => by
    simp only [T.twsB, Bool.and_eq_true] at h
    exact ⟨T.twB_ok t h.1, T.twsB_ok ts h.2⟩
end
def Mc.twB (m : Mc) : Bool := (m.instrs.all fun i => U64b i.mask && U64b i.match_ && i.effects.all fun e => e.addr.twB && e.value.twB && e.cond.twB) && m.regs.all fun r => I64b r.width && I64b r.of_ && I64b r.low
theorem Mc.twB_ok {m : Mc} (h : m.twB = true) : m.tw := by
  simp only [Mc.twB, Bool.and_eq_true, List.all_eq_true] at h
  refine ⟨fun i hi => ?_, fun r hr => ?_⟩
  · obtain ⟨⟨h1, h2⟩, h3⟩ := h.1 i hi
    exact ⟨U64b_ok h1, U64b_ok h2, fun e he => ⟨T.twB_ok _ (h3 e he).1.1, T.twB_ok _ (h3 e he).1.2, T.twB_ok _ (h3 e he).2⟩⟩
  · obtain ⟨⟨h1, h2⟩, h3⟩ := h.2 r hr
    exact ⟨I64b_ok h1, I64b_ok h2, I64b_ok h3⟩
def lenB : D → Bool
  | .agg ds => lenBs ds
  | .lst _ es => decide (es.length ≤ 1000) && lenBss es
  | .rp ds => lenBs ds
  | .fn _ ds => lenBs ds
  | .tup ds => lenBs ds
  | _ => true
where
  lenBs : List D → Bool
    | [] => true
    | d :: ds => lenB d && lenBs ds
  lenBss : List (List D) → Bool
    | [] => true
    | e :: es => lenBs e && lenBss es
mutual
theorem lenB_ok : ∀ d : D, lenB d = true → lenOK d
  | .v _, _ => by simp only [lenOK]
  | .agg ds, h => by simp only [lenB] at h; simp only [lenOK]; exact lenBs_ok ds h
  | .lst _ es, h => by
    simp only [lenB, Bool.and_eq_true, decide_eq_true_eq] at h
    simp only [lenOK]
    exact ⟨by have := maxLen_ge; omega, lenBss_ok es h.2⟩
  | .rp ds, h => by simp only [lenB] at h; simp only [lenOK]; exact lenBs_ok ds h
  | .fn _ ds, h => by simp only [lenB] at h; simp only [lenOK]; exact lenBs_ok ds h
  | .tup ds, h => by simp only [lenB] at h; simp only [lenOK]; exact lenBs_ok ds h
  | .own _ _, _ => by simp only [lenOK]
  | .ptr _ _, _ => by simp only [lenOK]
  | .mp _, _ => by simp only [lenOK]
  | .junk, _ => by simp only [lenOK]
theorem lenBs_ok : ∀ ds : List D, lenB.lenBs ds = true → lenOK.lenOKs ds
  | [], _ => by simp only [lenOK.lenOKs]
  | d :: ds, h => by
    simp only [lenB.lenBs, Bool.and_eq_true] at h
    simp only [lenOK.lenOKs]
    exact ⟨lenB_ok d h.1, lenBs_ok ds h.2⟩
theorem lenBss_ok : ∀ es : List (List D), lenB.lenBss es = true → lenOK.lenOKss es
  | [], _ => by simp only [lenOK.lenOKss]
  | e :: es, h => by
    simp only [lenB.lenBss, Bool.and_eq_true] at h
    simp only [lenOK.lenOKss]
    exact ⟨lenBs_ok e h.1, lenBss_ok es h.2⟩
end
theorem gm1_terms : MZ gm1 ∧ TOKs gm1 := great_terms (by kernel_rfl) (Mc.twB_ok (by kernel_rfl)) (lenBs_ok _ (by kernel_rfl))
theorem gm0_terms : MZ gm0 ∧ TOKs gm0 := great_terms (by kernel_rfl) (Mc.twB_ok (by kernel_rfl)) (lenBs_ok _ (by kernel_rfl))
theorem gm1_reg : RegZ gm1 := chk_regz ((chk_eq gm1_terms.1 gm1_terms.2) ▸ gm1_ok)
theorem gm1_fine : Fine gm1 := (chk_fine ((chk_eq gm1_terms.1 gm1_terms.2) ▸ gm1_ok)).1
theorem gm0_fine : Fine gm0 ∧ (gm0.address = 16 ∨ gm0.address = 32) ∧ (1 ≤ gm0.word ∧ gm0.word ≤ 4) := chk_fine ((chk_eq gm0_terms.1 gm0_terms.2) ▸ gm0_ok)
end Go.Proofs.Dv
set_option linter.unusedVariables false
set_option linter.unusedSimpArgs false
set_option maxRecDepth 100000
namespace Go.Proofs.Dv
open Go.RowKit
open Nat renaming reduceEqDiff → zA, reduceAdd → zB, reduceSub → zC, reduceLeDiff → zD, reduceLT → zE, reduceMul → zF
open Int renaming reduceToNat → zG, reduceLE → zH, reduceLT → zI
open List renaming set_cons_zero → zJ, set_cons_succ → zK
def s_Given : List D → Option D
  | [.v (.int .i64 k)] => if k = 1 then some (.agg gm1.d) else if k = 0 then some (.agg gm0.d) else none
  | _ => none
theorem e_Given1 : s_Given [.v (.int .i64 1)] = some (.agg gm1.d) := nr rfl
theorem e_Given0 : s_Given [.v (.int .i64 0)] = some (.agg gm0.d) := nr rfl
def wk2 (s : List D → Option D) : List D → Option D
  | a :: b :: r => s (a :: weak b :: r)
  | ds => s ds
theorem wk2_eq {s : List D → Option D} {a b : D} {r : List D} : wk2 s (a :: b :: r) = s (a :: weak b :: r) := nr rfl
theorem PureC.wk2 {P : Program} {G : Nat → Option (List D)} {f : Nat} {s : List D → Option D} (h : PureC P G f s) : PureC P G f (wk2 s) := by
  refine ⟨h.1, fun w S vs ds r h1 h2 h3 h4 => ?_⟩
  match ds, h3, h4 with
  | [], h3, h4 => exact h.2 w S vs [] r h1 h2 h3 h4
  | [a], h3, h4 => exact h.2 w S vs [a] r h1 h2 h3 h4
  | a :: b :: t, h3, h4 =>
    refine h.2 w S vs (a :: Dv.weak b :: t) r h1 h2 ⟨h3.1, fun j hj => ?_⟩ h4
    obtain ⟨v, v1, v2⟩ := h3.2 j hj
    refine ⟨v, v1, ?_⟩
    cases j with
    | zero => exact v2
    | succ j =>
      cases j with
      | zero => exact Rd.weak _ _ _ v2
      | succ j => exact v2
theorem weak_op {i : Int} {ex : Bool} {l : List Int} : weak (.agg [.v (.int .i64 i), .lst ex (l.map iD)]) = .agg [.v (.int .i64 i), .lst false (l.map iD)] := by
  simp only [weak, weaks_map, weakss_map, List.map_cons, List.map_nil, List.map_map, D.agg.injEq, List.cons.injEq, and_true, D.lst.injEq, true_and]
  exact List.map_congr_left fun x _ => by simp only [Function.comp, iD, List.map_cons, List.map_nil, weak]
def rdsB (rs : List Int) (reg want : Int) : Bool := match readD gm1 rs reg (errL gm1 (vlM gm1 rs) rs.length reg (chkM gm1)) with
  | .tup [.v (.int .u64 v), .v (.int .i64 e)] => decide (e = 0) && decide (v = want)
  | _ => false
def x_Reads (a : Bool × (List Int) × Int × Int) : List D := match a with | (f, rs, reg, x) => [.lst f (rs.map uD), .v (.int .i64 reg), .v (.int .u64 x)]
theorem i_Reads : ∀ a b, x_Reads a = x_Reads b → a = b := by
  rintro ⟨f, rs, reg, x⟩ ⟨f', rs', reg', x'⟩ h
  first | simpa [x_Reads, INJ, and_assoc, Int.ofNat_inj] using h | (simp [x_Reads, INJ, and_assoc, Int.ofNat_inj] at h; simp_all)
open Classical in
noncomputable def s_Reads : List D → Option D := sOf x_Reads fun a => match a with | (f, rs, reg, x) => if (rs.length ≤ 1000) then some (.v (.bool (rdsB rs reg x))) else none
theorem e_Reads {f : Bool} {rs : List Int} {reg : Int} {x : Int} (hc : (rs.length ≤ 1000)) : s_Reads [.lst f (rs.map uD), .v (.int .i64 reg), .v (.int .u64 x)] = some (.v (.bool (rdsB rs reg x))) := (sOf_eq i_Reads (f, rs, reg, x)).trans (if_pos hc)
theorem R_Reads {C : Ctx} {F : IFun} (hspec : ∀ N, maxLen + 10 < N → ∀ (f : Bool) (rs : List Int) (reg : Int) (x : Int), lenOK.lenOKs [.lst f (rs.map uD), .v (.int .i64 reg), .v (.int .u64 x)] → (rs.length ≤ 1000) → runE C N F [.lst f (rs.map uD), .v (.int .i64 reg), .v (.int .u64 x)] = some (.v (.bool (rdsB rs reg x)))) : Runs C F (s_Reads) := runs_of i_Reads fun N hN a r hl hf => by
  obtain ⟨f, rs, reg, x⟩ := a
  simp only [Option.ite_none_right_eq_some, Option.some.injEq] at hf
  obtain ⟨hc, rfl⟩ := hf
  exact hspec N hN f rs reg x hl hc
theorem reg_some {m : Mc} (hz : chkM m = 0 → RegZ m) {vl : Bool} {k : Nat} {reg : Int} : errL m vl k reg (chkM m) = 0 → ∃ r, m.regs[reg.toNat]? = some r := fun h => by
  obtain ⟨q1, q2, _, _⟩ := errL_ok (decide_eq_true h)
  exact (inB_get (by have := (hz q1).1; omega) q2).2
theorem r_reads (C : Ctx) (hG : C.T 33 = some s_Given) (hR : C.T 28 = some s_ReadF) : Runs C ir101 s_Reads := R_Reads fun N hN f rs reg x hl hc => by
  have e1 := @e_ReadF gm1 f rs reg ⟨gm1_terms.2, fun _ => gm1_reg, hc⟩
  obtain ⟨v, k, q⟩ := read_tup gm1 rs reg _ (reg_some (vl := vlM gm1 rs) (k := rs.length) fun _ => gm1_reg)
  have eG := e_Given1
  unfold rdsB
  rw [q] at e1 ⊢
  simp only [Mc.d] at e1 eG
  cases h0 : decide (k = 0)
  · simp -dsimp only [runE, run_eq, ir101, Mc.d, hG, eG, hR, e1, h0, EVs, ↓EVd, ↓reduceIte, zA, zB, zC, zD, zE, zF, reduceBEq, reduceCtorEq, zG, zH, zI, zJ, zK, dcells, okc]
  · simp -dsimp only [runE, run_eq, ir101, Mc.d, hG, eG, hR, e1, h0, EVs, ↓EVd, ↓reduceIte, zA, zB, zC, zD, zE, zF, reduceBEq, reduceCtorEq, zG, zH, zI, zJ, zK, dcells, okc]
def fitI (s : ByteArray) (l : List Int) : Int := bif decide (chkM gm1 = 0) then (bif decide (insI gm1 s < 0) then 6 else cop gm1 ⟨insI gm1 s, l⟩) else chkM gm1
def x_Fits (a : ByteArray × Bool × (List Int)) : List D := match a with | (s, ex, l) => [.v (.int .i64 1), .v (.string s), .lst ex (l.map iD)]
theorem i_Fits : ∀ a b, x_Fits a = x_Fits b → a = b := by
  rintro ⟨s, ex, l⟩ ⟨s', ex', l'⟩ h
  first | simpa [x_Fits, INJ, and_assoc, Int.ofNat_inj] using h | (simp [x_Fits, INJ, and_assoc, Int.ofNat_inj] at h; simp_all)
open Classical in
noncomputable def s_Fits : List D → Option D := sOf x_Fits fun a => match a with | (s, ex, l) => if (∀ a ∈ l, I64 a) then some (.v (.int .i64 (fitI s l))) else none
theorem e_Fits {s : ByteArray} {ex : Bool} {l : List Int} (hc : (∀ a ∈ l, I64 a)) : s_Fits [.v (.int .i64 1), .v (.string s), .lst ex (l.map iD)] = some (.v (.int .i64 (fitI s l))) := (sOf_eq i_Fits (s, ex, l)).trans (if_pos hc)
theorem R_Fits {C : Ctx} {F : IFun} (hspec : ∀ N, maxLen + 10 < N → ∀ (s : ByteArray) (ex : Bool) (l : List Int), lenOK.lenOKs [.v (.int .i64 1), .v (.string s), .lst ex (l.map iD)] → (∀ a ∈ l, I64 a) → runE C N F [.v (.int .i64 1), .v (.string s), .lst ex (l.map iD)] = some (.v (.int .i64 (fitI s l)))) : Runs C F (s_Fits) := runs_of i_Fits fun N hN a r hl hf => by
  obtain ⟨s, ex, l⟩ := a
  simp only [Option.ite_none_right_eq_some, Option.some.injEq] at hf
  obtain ⟨hc, rfl⟩ := hf
  exact hspec N hN s ex l hl hc
theorem r_fits (C : Ctx) (hG : C.T 33 = some s_Given) (hI : C.T 20 = some s_InsF) (hO : C.T 36 = some (wk2 s_COp)) : Runs C ir35 s_Fits := R_Fits fun N hN s ex l hl hc => by
  have e1 := @e_InsF gm1 s gm1_terms.2
  have eG := e_Given1
  have hk := gm1_ok
  unfold findD at e1
  unfold fitI
  rw [hk] at e1 ⊢
  have h0 : decide ((0 : Int) = 0) = true := rfl
  rw [h0] at e1 ⊢
  simp only [cond_true] at e1 ⊢
  simp only [Mc.d] at e1 eG
  cases h1 : decide (insI gm1 s < 0)
  · have e2 := @e_COp gm1 ⟨insI gm1 s, l⟩ ⟨gm1_terms.2, fun _ => gm1_fine, hc⟩
    simp only [Mc.d, Mo.d] at e2
    rw [h1] at e1
    simp only [cond_false] at e1
    simp -dsimp only [runE, run_eq, ir35, Mc.d, hG, eG, hI, e1, h1, hO, wk2_eq, weak_op, e2, layd, h0, EVs, ↓EVd, ↓reduceIte, zA, zB, zC, zD, zE, zF, reduceBEq, reduceCtorEq, zG, zH, zI, zJ, zK, dcells, okc]
  · rw [h1] at e1
    simp only [cond_true] at e1
    simp -dsimp only [runE, run_eq, ir35, Mc.d, hG, eG, hI, e1, h1, layd, Int.reduceEq, EVs, ↓EVd, ↓reduceIte, zA, zB, zC, zD, zE, zF, reduceBEq, reduceCtorEq, zG, zH, zI, zJ, zK, dcells, okc]
end Go.Proofs.Dv
set_option linter.unusedVariables false
set_option linter.unusedSimpArgs false
set_option maxRecDepth 100000
namespace Go.Proofs.Dv
open Go.RowKit
open Nat renaming reduceEqDiff → zA, reduceAdd → zB, reduceSub → zC, reduceLeDiff → zD, reduceLT → zE, reduceMul → zF
open Int renaming reduceToNat → zG, reduceLE → zH, reduceLT → zI
open List renaming set_cons_zero → zJ, set_cons_succ → zK
def azs : List Int := 0 :: List.replicate 10 0
def av0 : List Int := 4660 :: List.replicate 10 0
def av1 : List Int := 4863 :: List.replicate 10 0
def avr : List Int := [0, 1, 2, 3, 4, 5, 6, 7, 16, 17, 18]
theorem a_al : findD 0 (regI gm1 (strK [97, 108])) = .tup [.v (.int .i64 8), .v (.int .i64 0)] := by kernel_rfl
theorem a_ah : findD 0 (regI gm1 (strK [97, 104])) = .tup [.v (.int .i64 12), .v (.int .i64 0)] := by kernel_rfl
theorem a_roots : rootsD gm1 0 = .tup [.lst false (avr.map iD), .v (.int .i64 0)] := by kernel_rfl
theorem a_write : writeD gm1 av0 8 255 (errL gm1 (vlM gm1 av0) av0.length 8 0) = .tup [.lst false (av1.map uD), .v (.int .i64 0)] := by kernel_rfl
theorem a_ov1 : ovD gm1 8 0 0 = .tup [.v (.bool true), .v (.int .i64 0)] := by kernel_rfl
theorem a_ov2 : ovD gm1 8 12 0 = .tup [.v (.bool false), .v (.int .i64 0)] := by kernel_rfl
theorem a_jump : findD 0 (insI gm0 (strK [106, 117, 109, 112])) = .tup [.v (.int .i64 32), .v (.int .i64 0)] := by kernel_rfl
theorem a_vars : varsD gm0 ⟨32, [-2]⟩ 100 (cop gm0 ⟨32, [-2]⟩) = .tup [.lst false [Bn.d ⟨strK [116, 111], 32, 96⟩, Bn.d ⟨strK [112, 99], 32, 100⟩], .v (.int .i64 0)] := by kernel_rfl
theorem a_rd1 : rdsB av0 12 18 = true := by kernel_rfl
theorem a_rd2 : rdsB av1 0 4863 = true := by kernel_rfl
theorem a_ft1 : fitI (strK [109, 111, 118, 105]) [2, -64] = 0 := by kernel_rfl
theorem a_ft2 : fitI (strK [109, 111, 118, 105]) [2, -65] = 24 := by kernel_rfl
def s_Alive : List D → Option D
  | [] => some (.v (.bool true))
  | _ => none
theorem e_Alive : s_Alive [] = some (.v (.bool true)) := nr rfl
set_option maxHeartbeats 4000000 in
theorem r_alive (C : Ctx) (hG : C.T 33 = some s_Given) (hR : C.T 18 = some s_RegF) (hRo : C.T 22 = some s_RootsF) (hW : C.T 30 = some s_WriteF) (hOv : C.T 26 = some s_OverF) (hI : C.T 20 = some s_InsF) (hV : C.T 34 = some (wk2 s_VarsMv)) (hrd : C.T 101 = some s_Reads) (hft : C.T 35 = some s_Fits) : Runs C ir37 s_Alive := by
  intro N hN ds r hl hs
  cases ds with
  | cons d ds => simp [s_Alive] at hs
  | nil =>
    simp only [s_Alive, Option.some.injEq] at hs
    subst hs
    have g1 := e_Given1
    have g0 := e_Given0
    have k1 := @e_RegF gm1 (strK [97, 108]) gm1_terms.2
    have k2 := @e_RegF gm1 (strK [97, 104]) gm1_terms.2
    have k3 := @e_RootsF gm1 gm1_terms.2
    have k4 := @e_WriteF gm1 false av0 8 255 ⟨gm1_terms.2, fun _ => gm1_reg, by decide⟩
    have k5 := @e_OverF gm1 8 0 ⟨gm1_terms.2, fun _ => gm1_reg⟩
    have k6 := @e_OverF gm1 8 12 ⟨gm1_terms.2, fun _ => gm1_reg⟩
    have k7 := @e_InsF gm0 (strK [106, 117, 109, 112]) gm0_terms.2
    have k8 := @e_VarsMv gm0 ⟨32, [-2]⟩ 100 ⟨gm0_terms.2, fun _ => gm0_fine, by simp [I64], by simp [U64]⟩
    have k9 := @e_Reads false av0 12 18 (by decide)
    have k10 := @e_Reads false av1 0 4863 (by decide)
    have k11 := @e_Fits (strK [109, 111, 118, 105]) true [2, -64] (by simp [I64])
    have k12 := @e_Fits (strK [109, 111, 118, 105]) true [2, -65] (by simp [I64])
    rw [gm1_ok] at k1 k2 k3 k4 k5 k6
    rw [gm0_ok] at k7
    rw [a_al] at k1
    rw [a_ah] at k2
    rw [a_roots] at k3
    rw [a_write] at k4
    rw [a_ov1] at k5
    rw [a_ov2] at k6
    rw [a_jump] at k7
    rw [a_vars] at k8
    rw [a_rd1] at k9
    rw [a_rd2] at k10
    rw [a_ft1] at k11
    rw [a_ft2] at k12
    have w1 := @weak_op 32 true [-2]
    have m1 : (List.replicate 11 [D.v (.int .u64 0)]).flatten = azs.map uV := rfl
    have m2 : D.v (.int .u64 4660) :: List.drop 1 (azs.map uV) = av0.map uV := rfl
    have m4 : azs.length = 11 := rfl
    have b3 : decide ((0 : Int) < ((11 : Nat) : Int)) = true := by decide
    have m5 : av0.length = 11 := rfl
    have m6 : avr.length = 11 := rfl
    have b1 : decide ((11 : Int) * ((8 : Nat) : Int) ≤ 140737488355328) = true := by decide
    have b2 : decide ((11 : Int) * 8 ≤ 140737488355328) = true := by decide
    have b4 : decide (((11 : Nat) : Int) = 11) = true := by decide
    have b5 : decide (((2 : Nat) : Int) = 2) = true := by decide
    have b6 : decide (((0 + 1 + 1 : Nat) : Int) = 2) = true := by decide
    have hd2 : ∀ x : Int, decide (x = x) = true := fun x => decide_eq_true rfl
    have hd : ∀ x : ByteArray, decide (x = x) = true := fun x => decide_eq_true rfl
    simp only [Mc.d, Mo.d, Bn.d, strK, List.map_cons, List.map_nil, iD] at g1 g0 k1 k2 k3 k4 k5 k6 k7 k8 k9 k10 k11 k12 w1
    simp -dsimp only [EVm, runE, run_eq, ir37, Mc.d, b1, b2, b3, b4, b5, b6, hd2, hG, g1, g0, hR, k1, k2, hRo, k3, m1, m2, m4, m5, m6, uV_cls, uV_sing, hW, k4, hOv, k5, k6, hI, k7, hV, wk2_eq, w1, k8, hrd, k9, k10, hft, k11, k12, layd, hd, List.length_map, EVs, ↓EVd, ↓reduceIte, zA, zB, zC, zD, zE, zF, reduceBEq, reduceCtorEq, zG, zH, zI, zJ, zK, dcells, okc]
end Go.Proofs.Dv
set_option linter.unusedVariables false
set_option linter.unusedSimpArgs false
set_option maxRecDepth 100000
namespace Go.Proofs.Dv
open Go.RowKit
open Nat renaming reduceEqDiff → zA, reduceAdd → zB, reduceSub → zC, reduceLeDiff → zD, reduceLT → zE, reduceMul → zF
open Int renaming reduceToNat → zG, reduceLE → zH, reduceLT → zI
open List renaming set_cons_zero → zJ, set_cons_succ → zK
end Go.Proofs.Dv
set_option linter.unusedVariables false
set_option linter.unusedSimpArgs false
set_option maxRecDepth 100000
namespace Go.Proofs.Dv
open Go.RowKit
open Nat renaming reduceEqDiff → zA, reduceAdd → zB, reduceSub → zC, reduceLeDiff → zD, reduceLT → zE, reduceMul → zF
open Int renaming reduceToNat → zG, reduceLE → zH, reduceLT → zI
open List renaming set_cons_zero → zJ, set_cons_succ → zK
end Go.Proofs.Dv
set_option linter.unusedVariables false
set_option linter.unusedSimpArgs false
set_option maxRecDepth 100000
namespace Go.Proofs.Dv
open Go.RowKit
open Nat renaming reduceEqDiff → zA, reduceAdd → zB, reduceSub → zC, reduceLeDiff → zD, reduceLT → zE, reduceMul → zF
open Int renaming reduceToNat → zG, reduceLE → zH, reduceLT → zI
open List renaming set_cons_zero → zJ, set_cons_succ → zK
end Go.Proofs.Dv
set_option linter.unusedVariables false
set_option linter.unusedSimpArgs false
set_option maxRecDepth 100000
namespace Go.Proofs.Dv
open Go.RowKit
open Nat renaming reduceEqDiff → zA, reduceAdd → zB, reduceSub → zC, reduceLeDiff → zD, reduceLT → zE, reduceMul → zF
open Int renaming reduceToNat → zG, reduceLE → zH, reduceLT → zI
open List renaming set_cons_zero → zJ, set_cons_succ → zK
end Go.Proofs.Dv
set_option linter.unusedVariables false
set_option linter.unusedSimpArgs false
set_option maxRecDepth 100000
namespace Go.Proofs.Dv
open Go.RowKit
open Nat renaming reduceEqDiff → zA, reduceAdd → zB, reduceSub → zC, reduceLeDiff → zD, reduceLT → zE, reduceMul → zF
open Int renaming reduceToNat → zG, reduceLE → zH, reduceLT → zI
open List renaming set_cons_zero → zJ, set_cons_succ → zK
theorem rng_off {o : Opn} {n : Int} (hF : 1 ≤ fieldOf o.pieces) (h : rngB o n = true) (e : Int) (he : e = 1 ∨ e = -1) : rngB o (n + e * (p2 (fieldOf o.pieces).toNat * p2 o.scale.toNat)) = false := by
  unfold rngB at h ⊢
  simp only [Bool.and_eq_true, decide_eq_true_eq] at h
  obtain ⟨h1, h2⟩ := h
  have hd := p2_pos o.scale.toNat
  generalize p2 o.scale.toNat = d at *
  obtain ⟨k, rfl⟩ := Int.dvd_of_tmod_eq_zero h1
  have hd0 : d ≠ 0 := by omega
  obtain ⟨F, hFe⟩ : ∃ F : Nat, fieldOf o.pieces = ((F + 1 : Nat) : Int) := ⟨(fieldOf o.pieces).toNat - 1, by omega⟩
  have e1 : (fieldOf o.pieces).toNat = F + 1 := by rw [hFe]; simp
  have e2 : (fieldOf o.pieces - 1).toNat = F := by rw [hFe]; omega
  rw [e1, e2] at h2 ⊢
  have hp := p2_pos F
  have hs := p2_succ F
  have e3 : d * k + e * (p2 (F + 1) * d) = d * (k + e * p2 (F + 1)) := by
    rw [Int.mul_add, Int.mul_comm (p2 (F + 1)) d, Int.mul_left_comm]
  rw [e3, Int.mul_tdiv_cancel_left _ hd0]
  rw [Int.mul_tdiv_cancel_left _ hd0] at h2
  rw [Bool.and_eq_false_iff]
  right
  by_cases h3 : o.kind = 3
  · rw [if_pos h3] at h2 ⊢
    have h2 := inB_iff.1 h2
    refine Bool.eq_false_iff.2 fun h => ?_
    have h := inB_iff.1 h
    rcases he with rfl | rfl <;> simp only [Int.one_mul, Int.neg_mul, hs] at h h2 <;> omega
  · rw [if_neg h3] at h2 ⊢
    have h2 := inB_iff.1 h2
    refine Bool.eq_false_iff.2 fun h => ?_
    have h := inB_iff.1 h
    rcases he with rfl | rfl <;> simp only [Int.one_mul, Int.neg_mul, hs] at h h2 <;> omega
theorem chk_ops {m : Mc} (h : chkR m = 0) {s : Ins} (hsm : s ∈ m.instrs) {k : Nat} {o : Opn} (hk : s.operands[k]? = some o) : (∀ p ∈ o.pieces, PO 32 p) ∧ o.pieces.length ≤ 1000 ∧ (o.kind = 1 → 0 ≤ o.tied → ∃ q, s.operands[o.tied.toNat]? = some q ∧ q.kind = 1) := by
  unfold chkR at h
  cases hs : smallOK m with
  | false => rw [hs] at h; simp at h
  | true =>
    rw [hs] at h
    simp only [Bool.not_true, cond_false] at h
    cases hh : headR m && allI (insAt m) 0 m.instrs with
    | false => rw [hh] at h; simp at h
    | true =>
      simp only [headR, Bool.and_eq_true, Bool.or_eq_true, decide_eq_true_eq] at hh
      obtain ⟨⟨_, hw, ha, _, _, _⟩, hins⟩ := hh
      have hW8 := W8_eq hw
      have hw' := inB_iff.1 hw
      have hW : W8 m ≤ 32 := by omega
      simp only [smallOK, Bool.and_eq_true, List.all_eq_true] at hs
      obtain ⟨⟨⟨⟨_, z2⟩, _⟩, z4⟩, _, z6⟩ := hs
      have hz := z6 s hsm
      simp only [smI, Bool.and_eq_true, List.all_eq_true] at hz
      obtain ⟨⟨a1, _⟩, a3⟩ := hz
      have ho := List.mem_of_getElem? hk
      obtain ⟨j, hj⟩ := List.mem_iff_getElem?.1 hsm
      have h1 := allI_get _ _ hins j s hj
      simp only [insAt, insR, Bool.and_eq_true] at h1
      have hops := h1.1.2.2.2.1
      have h2 := ops_get hops hk
      simp only [opR, opHead, Bool.and_eq_true] at h2
      have hpo : ∀ p ∈ o.pieces, PO 32 p := fun p hp => by
        obtain ⟨b1, b2, b3, b4⟩ := opsR_pcs hW hops o ho p hp
        exact ⟨b1, by omega, b3, by omega⟩
      have hpl := fewB_le (a3 o ho)
      refine ⟨hpo, by omega, fun hk1 ht => ?_⟩
      have h3 := h2.2.2
      unfold opKind at h3
      simp only [hk1, if_true, Bool.and_eq_true] at h3
      obtain ⟨⟨b1, _⟩, b2⟩ := h3
      split at b2
      · omega
      · simp only [Bool.and_eq_true] at b2
        have b3 := b2.2
        cases hq : s.operands[o.tied.toNat]? with
        | none => rw [hq] at b3; simp at b3
        | some q =>
          rw [hq] at b3
          simp only [Bool.and_eq_true, decide_eq_true_eq] at b3
          exact ⟨q, rfl, b3.1.1⟩
theorem scan_first {α : Type} {t : Nat → α → Bool} {v : Nat → α → Int} : ∀ (l : List α) (a k : Nat) (x : α), (∀ j y, j < k → l[j]? = some y → t (a + j) y = true) → l[k]? = some x → t (a + k) x = false → scan (tst t (fun i _ => i + 1) v) a l = .out (v (a + k) x)
  | [], a, k, x, _, h, _ => by simp at h
  | y :: l, a, k, x, hb, h, hx => by
    simp only [scan, tst]
    cases k with
    | zero =>
      simp only [List.getElem?_cons_zero, Option.some.injEq] at h
      subst h
      rw [Nat.add_zero] at hx ⊢
      rw [hx]; rfl
    | succ k =>
      have := hb 0 y (by omega) rfl
      rw [Nat.add_zero] at this
      rw [this]
      simp only [if_true]
      rw [scan_first l (a + 1) k x (fun j z hj hz => by
        have := hb (j + 1) z (by omega) (by simpa using hz)
        rwa [show a + (j + 1) = a + 1 + j by omega] at this) (by simpa using h) (by rwa [show a + 1 + k = a + (k + 1) by omega])]
      rw [show a + 1 + k = a + (k + 1) by omega]
theorem suits_off {m : Mc} (hc : chkR m = 0) {op : Mo} (hl : m.instrs.length ≤ 1000000) (h : suits m op = 0) {s : Ins} (hs : m.instrs[op.instr.toNat]? = some s) {k : Nat} {o : Opn} (hk : s.operands[k]? = some o) (hkd : ¬ o.kind = 1) {n : Int} (hn : rngB o n = false) (hkl : k < op.args.length) : suits m ⟨op.instr, op.args.set k n⟩ = 24 := by
  obtain ⟨_, s', hs', hlen, hall⟩ := suits_ok hl h
  rw [hs] at hs'
  simp only [Option.some.injEq] at hs'
  subst hs'
  have hin : inB op.instr 0 (IntKind.i64.wrap ((m.instrs.length : Int) - 1)) = true := by
    unfold suits at h
    cases h1 : inB op.instr 0 (IntKind.i64.wrap ((m.instrs.length : Int) - 1)) with
    | false => rw [h1] at h; simp at h
    | true => rfl
  unfold suits
  simp only [hin, hs, Bool.not_true, cond_false, List.length_set, hlen]
  unfold suitS
  have e1 : suitAt m (op.args.set k n) k o = 24 := by
    unfold suitAt
    rw [if_neg hkd, List.getElem?_set, if_pos rfl, if_pos hkl, Option.getD_some, hn]; rfl
  rw [scan_first s.operands 0 k o (fun j y hj hy => ?_) hk (by rw [Nat.zero_add, e1]; rfl), Nat.zero_add, scR, e1]
  rw [Nat.zero_add]
  have h0 := hall j y hy
  have hjk : (op.args.set k n)[j]? = op.args[j]? := List.getElem?_set_ne (by omega)
  refine decide_eq_true ?_
  rw [← h0]
  unfold suitAt
  rw [hjk]
  by_cases hy1 : y.kind = 1
  · rw [if_pos hy1, if_pos hy1]
    by_cases ht : 0 ≤ y.tied
    · obtain ⟨q, q1, q2⟩ := (chk_ops hc (List.mem_of_getElem? hs) hy).2.2 hy1 ht
      have hne : y.tied.toNat ≠ k := fun e => by
        rw [e, hk] at q1
        simp only [Option.some.injEq] at q1
        subst q1
        exact hkd q2
      have e2 : atI (op.args.set k n) y.tied = atI op.args y.tied := by
        unfold atI
        rw [if_pos ht, if_pos ht, List.getElem?_set_ne (fun e => hne e.symm)]
      rw [e2]
    · rw [decide_eq_false ht, Bool.false_and, Bool.false_and]
  · rw [if_neg hy1, if_neg hy1]
end Go.Proofs.Dv
set_option linter.unusedVariables false
set_option linter.unusedSimpArgs false
set_option maxRecDepth 100000
namespace Go.Proofs.Dv
open Go.RowKit
open Nat renaming reduceEqDiff → zA, reduceAdd → zB, reduceSub → zC, reduceLeDiff → zD, reduceLT → zE, reduceMul → zF
open Int renaming reduceToNat → zG, reduceLE → zH, reduceLT → zI
open List renaming set_cons_zero → zJ, set_cons_succ → zK
def atN (L : List Opn) (i : Nat) : Nat := ((L.take i).filter fun o => !decide (o.kind = 1)).length
def vTail (m : Mc) (op : Mo) (pc : Int) : List Opn → Nat → List Bn
  | [], _ => []
  | o :: l, k => (if o.kind = 1 then [] else [vB m pc o ((op.args[k]?).getD 0)]) ++ vTail m op pc l (k + 1)
theorem vfold (m : Mc) (op : Mo) (pc : Int) : ∀ (l : List Opn) (k : Nat) (acc : List Bn), (l.foldl (vStep m op pc) (k, acc)).2 = acc ++ vTail m op pc l k
  | [], k, acc => by simp [vTail]
  | o :: l, k, acc => by
    rw [List.foldl_cons, vTail]
    unfold vStep
    simp only []
    have := vfold m op pc l (k + 1)
    unfold vStep at this
    rw [this]
    by_cases h : o.kind = 1
    · rw [if_pos h, if_pos h, List.nil_append]
    · rw [if_neg h, if_neg h, List.append_assoc]
theorem atN_cons {o : Opn} {l : List Opn} {i : Nat} : atN (o :: l) (i + 1) = (if o.kind = 1 then 0 else 1) + atN l i := by
  unfold atN
  rw [List.take_succ_cons, List.filter_cons]
  by_cases h : o.kind = 1
  · simp [h]
  · simp [h, Nat.add_comm]
theorem vTail_get {m : Mc} {op : Mo} {pc : Int} : ∀ (l : List Opn) (k i : Nat) (o : Opn), l[i]? = some o → ¬ o.kind = 1 → (vTail m op pc l k)[atN l i]? = some (vB m pc o ((op.args[k + i]?).getD 0))
  | [], k, i, o, h, _ => by simp at h
  | y :: l, k, 0, o, h, ho => by
    simp only [List.getElem?_cons_zero, Option.some.injEq] at h
    subst h
    rw [vTail, if_neg ho]
    simp [atN]
  | y :: l, k, i + 1, o, h, ho => by
    have ih := vTail_get (m := m) (op := op) (pc := pc) l (k + 1) i o (by simpa using h) ho
    rw [vTail, atN_cons, show k + (i + 1) = k + 1 + i by omega, ← ih]
    by_cases hy : y.kind = 1
    · rw [if_pos hy, if_pos hy, List.nil_append, Nat.zero_add]
    · rw [if_neg hy, if_neg hy, List.singleton_append, Nat.add_comm 1, List.getElem?_cons_succ]
theorem vTail_len {m : Mc} {op : Mo} {pc : Int} : ∀ (l : List Opn) (k : Nat), (vTail m op pc l k).length = atN l l.length
  | [], k => by simp [vTail, atN]
  | y :: l, k => by
    rw [vTail, List.length_append, vTail_len l (k + 1), List.length_cons, atN_cons]
    by_cases hy : y.kind = 1
    · rw [if_pos hy, if_pos hy]; simp
    · rw [if_neg hy, if_neg hy]; simp
theorem atN_succ {L : List Opn} {i : Nat} {o : Opn} (h : L[i]? = some o) : atN L (i + 1) = atN L i + (if o.kind = 1 then 0 else 1) := by
  have ht : L.take (i + 1) = L.take i ++ [o] := by rw [List.take_add_one, h]; rfl
  unfold atN
  rw [ht, List.filter_append, List.length_append]
  congr 1
  by_cases hk : o.kind = 1
  · simp [hk]
  · simp [hk]
theorem vars_at {m : Mc} {op : Mo} {pc : Int} {s : Ins} (hs : m.instrs[op.instr.toNat]? = some s) : varsL m op pc = vTail m op pc s.operands 0 ++ [⟨strK [112, 99], m.address, pc⟩] := by
  unfold varsL
  rw [hs]
  simp only [vfold, List.nil_append]
theorem vars_get {m : Mc} {op : Mo} {pc : Int} {s : Ins} (hs : m.instrs[op.instr.toNat]? = some s) {i : Nat} {o : Opn} (ho : s.operands[i]? = some o) (hk : ¬ o.kind = 1) : (varsL m op pc)[atN s.operands i]? = some (vB m pc o ((op.args[i]?).getD 0)) := by
  have h := vTail_get (m := m) (op := op) (pc := pc) s.operands 0 i o ho hk
  rw [Nat.zero_add] at h
  rw [vars_at hs, List.getElem?_append_left (List.getElem?_eq_some_iff.1 h).1, h]
theorem vars_last {m : Mc} {op : Mo} {pc : Int} {s : Ins} (hs : m.instrs[op.instr.toNat]? = some s) : (varsL m op pc)[atN s.operands s.operands.length]? = some ⟨strK [112, 99], m.address, pc⟩ ∧ (varsL m op pc).length = atN s.operands s.operands.length + 1 := by
  rw [vars_at hs]
  have := vTail_len (m := m) (op := op) (pc := pc) s.operands 0
  constructor
  · rw [List.getElem?_append_right (by omega), this, Nat.sub_self]; rfl
  · rw [List.length_append, this]; rfl
def iV (x : Int) : D := .v (.int .i64 x)
theorem flat_i : ∀ {l : List Int}, (l.map iD).flatten = l.map iV
  | [] => rfl
  | x :: l => by simp only [List.map_cons, List.flatten_cons, flat_i (l := l), iD, iV, List.singleton_append]
theorem iV_sing {l : List Int} : ((l.map iV).map fun c => [c]) = l.map iD := by rw [List.map_map]; rfl
theorem iV_cls : ∀ {l : List Int}, cl.cls (l.map iV) = true
  | [] => rfl
  | x :: l => by simp only [List.map_cons, cl.cls, iV_cls (l := l), iV, cl, Bool.and_self]
theorem iD_one {l : List Int} : ((l.map iD).all fun e => e.length == 1) = true := by
  rw [List.all_map, List.all_eq_true]; intro x _; rfl
theorem iV_set {l : List Int} {p : Nat} {v : Int} (h : p < l.length) : (l.map iV).take p ++ [.v (.int .i64 v)] ++ (l.map iV).drop (p + 1) = (l.set p v).map iV := by
  rw [List.set_eq_take_append_cons_drop, if_pos h]
  simp [iV]
theorem iV_get {l : List Int} {p : Nat} {v : Int} (h : l[p]? = some v) : (l.map iV)[p]? = some (.v (.int .i64 v)) := by rw [List.getElem?_map, h]; rfl
theorem iV_idlt {n : Nat} : ∀ {l : List Int}, idlt.idlts n (l.map iV) = true
  | [] => by rw [List.map_nil]; rfl
  | x :: l => by simp only [List.map_cons, idlt.idlts, iV_idlt (l := l), iV, idlt, Bool.and_self]
end Go.Proofs.Dv
set_option linter.unusedVariables false
set_option linter.unusedSimpArgs false
set_option maxRecDepth 100000
namespace Go.Proofs.Dv
open Go.RowKit
open Nat renaming reduceEqDiff → zA, reduceAdd → zB, reduceSub → zC, reduceLeDiff → zD, reduceLT → zE, reduceMul → zF
open Int renaming reduceToNat → zG, reduceLE → zH, reduceLT → zI
open List renaming set_cons_zero → zJ, set_cons_succ → zK
def sN (ps : List Pc) (k : Nat) : Nat := ((ps.take k).map fun p => p.len.toNat).sum
theorem sN_succ {ps : List Pc} {k : Nat} {p : Pc} (h : ps[k]? = some p) : sN ps (k + 1) = sN ps k + p.len.toNat := by
  have ht : ps.take (k + 1) = ps.take k ++ [p] := by rw [List.take_add_one, h]; rfl
  unfold sN
  rw [ht, List.map_append, List.sum_append]; simp
theorem field_sum : ∀ (ps : List Pc) (a : Nat), (∀ p ∈ ps, PO 32 p) → a + 32 * ps.length ≤ 100000 → ps.foldl (fun n p => IntKind.i64.wrap (n + p.len)) (a : Int) = ((a + (ps.map fun p => p.len.toNat).sum : Nat) : Int)
  | [], a, _, _ => by simp
  | p :: ps, a, hp, hl => by
    obtain ⟨q1, q2, _, _⟩ := hp p List.mem_cons_self
    simp only [List.length_cons] at hl
    rw [List.foldl_cons, wr _ (by omega) (by omega)]
    have e : (a : Int) + p.len = ((a + p.len.toNat : Nat) : Int) := by omega
    rw [e, field_sum ps (a + p.len.toNat) (fun q hq => hp q (List.mem_cons_of_mem _ hq)) (by omega)]
    simp only [List.map_cons, List.sum_cons]
    congr 1; omega
theorem sN_le {ps : List Pc} {k : Nat} : sN ps k ≤ (ps.map fun p => p.len.toNat).sum := by
  have e : ps = ps.take k ++ ps.drop k := (List.take_append_drop k ps).symm
  have : (ps.map fun p => p.len.toNat).sum = sN ps k + ((ps.drop k).map fun p => p.len.toNat).sum := by
    unfold sN
    rw [← List.sum_append, ← List.map_append, List.take_append_drop]
  omega
theorem sN_all {ps : List Pc} : sN ps ps.length = (ps.map fun p => p.len.toNat).sum := by unfold sN; rw [List.take_length]
theorem p2_dbl {n : Nat} (h : n ≤ 60) : IntKind.i64.wrap (2 * p2 n) = p2 (n + 1) := by
  have h1 := p2_succ n
  have h2 := p2_mono (a := n + 1) (b := 61) (by omega)
  have h3 : p2 61 = 2305843009213693952 := by decide
  have h4 := p2_pos n
  rw [wr _ (by omega) (by omega)]; omega
def flS (m : Mc) (s : Ins) (o : Opn) (op : Mo) (pc wh : Int) (V : D) (j i : Nat) (st : Int) (x : List (Nat × D)) : St := ⟨(2, .v (.int .u64 pc)) :: (3, .v (.int .i64 wh)) :: (4, .rp m.d) :: (5, .rp op.d) :: (9, .v (.bool true)) :: (10, V) :: (12, .ptr 2 0) :: (13, .v (.int .i64 j)) :: (14, .v (.int .i64 i)) :: (15, .ptr 3 0) :: (17, .v (.int .i64 st)) :: x, [(3, .box o.d), (2, .box s.d)], 4⟩
theorem fl_step (C : Ctx) (N : Nat) (hN : maxLen + 10 < N) (m : Mc) (s : Ins) (o : Opn) (op : Mo) (pc wh : Int) (l : List Bn) (j i : Nat) (hp : ∀ p ∈ o.pieces, PO 32 p) (hpl : o.pieces.length ≤ 1000) (hs : (o.pieces.map fun p => p.len.toNat).sum ≤ 32) {β : Type} (K : Option (Ex × St) → Option β) (σ : St) (v : β)
    (h0 : trim [2, 3, 4, 5, 9, 10, 12, 13, 14, 15, 17, 18] 4 σ = some (flS m s o op pc wh (.lst false (l.map Bn.d)) j i 1 [(18, .v (.int .i64 ((0 : Nat) : Int)))]))
    (hout : outK K (ev C N lp10x1 (flS m s o op pc wh (.lst false (l.map Bn.d)) j i (p2 (o.pieces.map fun p => p.len.toNat).sum) [(18, .v (.int .i64 o.pieces.length))])) = some v) :
    ∀ I, iter (ev C N lp10x1) (trim [2, 3, 4, 5, 9, 10, 12, 13, 14, 15, 17, 18] 4) N σ = I → K I = some v := by
  have hml := maxLen_ge
  refine iter_all o.pieces (fun k _ => flS m s o op pc wh (.lst false (l.map Bn.d)) j i (p2 (sN o.pieces k)) [(18, .v (.int .i64 k))]) (fun (_ : Unit) _ => ()) (fun _ _ => True) () (by omega) hN (by rw [h0]; rfl) trivial ?_ ?_
  · intro k _ p hk hkw hpk _
    refine ⟨?_, trivial⟩
    obtain ⟨q1, q2, _, _⟩ := hp p (List.mem_of_getElem? hpk)
    have hsn := sN_succ hpk
    have hle := sN_le (ps := o.pieces) (k := k + 1)
    have c1 : decide (0 ≤ (k : Int)) = true := decide_eq_true (by omega)
    simp -dsimp only [lp10x1, flS, Mc.d, Mo.d, Ins.d, Opn.d, hk, EVs, ↓EVd, ↓reduceIte, zA, zB, zC, zD, zE, zF, reduceBEq, reduceCtorEq, zG, zH, zI, zJ, zK, dcells, okc]
    generalize hI : iter _ _ _ _ = I
    revert I
    refine iter_all (List.replicate p.len.toNat ()) (fun b _ => flS m s o op pc wh (.lst false (l.map Bn.d)) j i (p2 (sN o.pieces k + b)) [(18, .v (.int .i64 k)), (19, .v (.int .i64 b))]) (fun (_ : Unit) _ => ()) (fun _ _ => True) () (by simp; omega) hN ?_ trivial ?_ ?_
    · simp -dsimp only [flS, Mc.d, Mo.d, Ins.d, Opn.d, Nat.add_zero, EVs, ↓EVd, ↓reduceIte, zA, zB, zC, zD, zE, zF, reduceBEq, reduceCtorEq, zG, zH, zI, zJ, zK, dcells, okc]
    · intro b _ _ hb hbw _ _
      rw [List.length_replicate] at hb
      have hb' := of_decide_eq_true hb
      refine ⟨?_, trivial⟩
      have b1 : decide ((b : Int) < p.len) = true := decide_eq_true (by omega)
      have b2 : decide ((b : Int) < 64) = true := decide_eq_true (by omega)
      have b3 := p2_dbl (n := sN o.pieces k + b) (by omega)
      simp -dsimp only [lp10x0, flS, Mc.d, Mo.d, Ins.d, Opn.d, Pc.d, c1, hpk, b1, b2, b3, hbw, Nat.add_assoc, EVs, ↓EVd, ↓reduceIte, zA, zB, zC, zD, zE, zF, reduceBEq, reduceCtorEq, zG, zH, zI, zJ, zK, dcells, okc]
    · intro _
      rw [List.length_replicate]
      have b1 : decide (((p.len.toNat : Nat) : Int) < p.len) = false := decide_eq_false (by omega)
      rw [← hsn]
      simp -dsimp only [lp10x0, flS, Mc.d, Mo.d, Ins.d, Opn.d, Pc.d, c1, hpk, b1, hkw, EVs, ↓EVd, ↓reduceIte, zA, zB, zC, zD, zE, zF, reduceBEq, reduceCtorEq, zG, zH, zI, zJ, zK, dcells, okc]
  · intro _
    rw [sN_all]
    exact hout
end Go.Proofs.Dv
set_option linter.unusedVariables false
set_option linter.unusedSimpArgs false
set_option maxRecDepth 100000
namespace Go.Proofs.Dv
open Go.RowKit
open Nat renaming reduceEqDiff → zA, reduceAdd → zB, reduceSub → zC, reduceLeDiff → zD, reduceLT → zE, reduceMul → zF
open Int renaming reduceToNat → zG, reduceLE → zH, reduceLT → zI
open List renaming set_cons_zero → zJ, set_cons_succ → zK
theorem rng_bnd {o : Opn} {n : Int} (hF : 1 ≤ fieldOf o.pieces) (hF2 : fieldOf o.pieces ≤ 32) (hs : 0 ≤ o.scale) (hs2 : o.scale ≤ 3) (h : rngB o n = true) : -68719476736 ≤ n ∧ n ≤ 68719476736 := by
  unfold rngB at h
  simp only [Bool.and_eq_true, decide_eq_true_eq] at h
  obtain ⟨h1, h2⟩ := h
  have hd := p2_pos o.scale.toNat
  have hd2 : p2 o.scale.toNat ≤ 8 := by
    have := p2_mono (a := o.scale.toNat) (b := 3) (by omega)
    have e : p2 3 = 8 := by decide
    omega
  generalize p2 o.scale.toNat = d at *
  obtain ⟨k, rfl⟩ := Int.dvd_of_tmod_eq_zero h1
  rw [Int.mul_tdiv_cancel_left _ (by omega)] at h2
  have e32 : p2 32 = 4294967296 := by decide
  have hk : -4294967296 ≤ k ∧ k ≤ 4294967296 := by
    by_cases h3 : o.kind = 3
    · rw [if_pos h3] at h2
      have h2 := inB_iff.1 h2
      have := p2_mono (a := (fieldOf o.pieces).toNat) (b := 32) (by omega)
      omega
    · rw [if_neg h3] at h2
      have h2 := inB_iff.1 h2
      have := p2_mono (a := (fieldOf o.pieces - 1).toNat) (b := 32) (by omega)
      omega
  have hd3 : d = 1 ∨ d = 2 ∨ d = 3 ∨ d = 4 ∨ d = 5 ∨ d = 6 ∨ d = 7 ∨ d = 8 := by omega
  rcases hd3 with rfl | rfl | rfl | rfl | rfl | rfl | rfl | rfl <;> omega
theorem mask_w {a : Int} (ha : a = 16 ∨ a = 32) : IntKind.u64.wrap (IntKind.u64.wrap (1 * 2 ^ (min (IntKind.u64.wrap a).toNat IntKind.u64.bits)) - 1) = mskI a := by
  rcases ha with rfl | rfl <;> decide
def x_LawFields (a : Mc × Mo × Int × Int) : List D := match a with | (m, op, pc, wh) => [.agg m.d, .agg op.d, .v (.int .u64 pc), .v (.int .i64 wh)]
theorem i_LawFields : ∀ a b, x_LawFields a = x_LawFields b → a = b := by
  rintro ⟨m, op, pc, wh⟩ ⟨m', op', pc', wh'⟩ h
  first | simpa [x_LawFields, INJ, and_assoc, Int.ofNat_inj] using h | (simp [x_LawFields, INJ, and_assoc, Int.ofNat_inj] at h; simp_all)
open Classical in
noncomputable def s_LawFields : List D → Option D := sOf x_LawFields fun a => match a with | (m, op, pc, wh) => if (m.tw ∧ (∀ a ∈ op.args, I64 a) ∧ U64 pc) then some (.v (.bool true)) else none
theorem e_LawFields {m : Mc} {op : Mo} {pc : Int} {wh : Int} (hc : (m.tw ∧ (∀ a ∈ op.args, I64 a) ∧ U64 pc)) : s_LawFields [.agg m.d, .agg op.d, .v (.int .u64 pc), .v (.int .i64 wh)] = some (.v (.bool true)) := (sOf_eq i_LawFields (m, op, pc, wh)).trans (if_pos hc)
theorem R_LawFields {C : Ctx} {F : IFun} (hspec : ∀ N, maxLen + 10 < N → ∀ (m : Mc) (op : Mo) (pc : Int) (wh : Int), lenOK.lenOKs [.agg m.d, .agg op.d, .v (.int .u64 pc), .v (.int .i64 wh)] → (m.tw ∧ (∀ a ∈ op.args, I64 a) ∧ U64 pc) → runE C N F [.agg m.d, .agg op.d, .v (.int .u64 pc), .v (.int .i64 wh)] = some (.v (.bool true))) : Runs C F (s_LawFields) := runs_of i_LawFields fun N hN a r hl hf => by
  obtain ⟨m, op, pc, wh⟩ := a
  simp only [Option.ite_none_right_eq_some, Option.some.injEq] at hf
  obtain ⟨hc, rfl⟩ := hf
  exact hspec N hN m op pc wh hl hc
set_option maxHeartbeats 8000000 in
theorem r_MachineFields (C : Ctx) (hA : C.T 37 = some s_Alive) (hG : C.T 11 = some s_GreatM) (hV : C.T 34 = some s_VarsMv) (hO : C.T 36 = some s_COp) : Runs C ir10 s_LawFields := R_LawFields fun N hN m op pc wh hl hc => by
  obtain ⟨htw, hargs, hpc⟩ := hc
  have eA := e_Alive
  have eG := @e_GreatM m
  simp only [Mc.d] at eG
  have hd : ∀ x : Int, decide (x = x) = true := fun x => decide_eq_true rfl
  have hdS : ∀ x : ByteArray, decide (x = x) = true := fun x => decide_eq_true rfl
  cases g1 : greatM m
  case true => simp -dsimp only [runE, run_eq, ir10, Mc.d, Mo.d, hA, eA, hG, eG, g1, EVs, ↓EVd, ↓reduceIte, zA, zB, zC, zD, zE, zF, reduceBEq, reduceCtorEq, zG, zH, zI, zJ, zK, dcells, okc]
  cases g2 : decide ((20 : Int) < (op.args.length : Int))
  case true => simp -dsimp only [runE, run_eq, ir10, Mc.d, Mo.d, hA, eA, hG, eG, g1, g2, EVs, ↓EVd, ↓reduceIte, zA, zB, zC, zD, zE, zF, reduceBEq, reduceCtorEq, zG, zH, zI, zJ, zK, dcells, okc]
  have hrl : op.args.length ≤ 20 := by have := of_decide_eq_false g2; omega
  have hml := maxLen_ge
  have hlm : lenOK.lenOKs m.d := by simp only [EVl] at hl; exact hl.1
  obtain ⟨t1, t2⟩ := great_terms g1 htw hlm
  have hck := chk_eq t1 t2
  have k1 := @e_VarsMv m op pc ⟨t2, fun h => chk_fine (hck ▸ h), hargs, hpc⟩
  unfold varsD at k1
  cases g5 : decide (vcode m pc (cop m op) = 0)
  · have g5' : ¬ vcode m pc (cop m op) = 0 := by simpa using g5
    rw [if_neg g5'] at k1
    have b0 : decide (((0 : Nat) : Int) = 0) = true := by decide
    simp only [Mc.d, Mo.d] at k1
    simp -dsimp only [runE, run_eq, ir10, Mc.d, Mo.d, hA, eA, hG, eG, g1, g2, hV, k1, g5, b0, EVs, ↓EVd, ↓reduceIte, zA, zB, zC, zD, zE, zF, reduceBEq, reduceCtorEq, zG, zH, zI, zJ, zK, dcells, okc]
  have g5' : vcode m pc (cop m op) = 0 := by simpa using g5
  rw [if_pos g5', g5'] at k1
  have hcop : cop m op = 0 ∧ pc < p2 m.address.toNat := by
    unfold vcode at g5'
    cases h1 : decide (cop m op = 0) with
    | false => rw [h1] at g5'; simp only [cond_false] at g5'; rw [g5'] at h1; simp at h1
    | true =>
      rw [h1] at g5'
      cases h2 : decide (pc < p2 m.address.toNat) with
      | false => rw [h2] at g5'; simp at g5'
      | true => exact ⟨by simpa using h1, by simpa using h2⟩
  have h0 : chkM m = 0 ∧ suits m op = 0 := by
    have h := hcop.1
    unfold cop at h
    cases h1 : decide (chkM m = 0) with
    | false => rw [h1] at h; simp only [cond_false] at h; rw [h] at h1; simp at h1
    | true => rw [h1] at h; exact ⟨by simpa using h1, by simpa using h⟩
  have hR0 : chkR m = 0 := hck ▸ h0.1
  obtain ⟨hfine, ha, hw⟩ := chk_fine hR0
  obtain ⟨c0, s, hs, hlen, hall⟩ := suits_ok (by have := hfine.1; omega) h0.2
  have hsm := List.mem_of_getElem? hs
  have hlen' : op.args.length = s.operands.length := by have := of_decide_eq_true hlen; omega
  have hil := (List.getElem?_eq_some_iff.1 hs).1
  obtain ⟨hlast, hvl⟩ := vars_last (m := m) (op := op) (pc := pc) hs
  have hpc2 : pc < 4294967296 := by
    have h16 : p2 (16 : Int).toNat = 65536 := rfl
    have h32 : p2 (32 : Int).toNat = 4294967296 := rfl
    rcases ha with h | h <;> rw [h] at hcop <;> omega
  have hget := fun {i : Nat} {o : Opn} (ho : s.operands[i]? = some o) (hk : ¬ o.kind = 1) => vars_get (m := m) (op := op) (pc := pc) hs ho hk
  generalize varsL m op pc = V at k1 hlast hvl hget
  have b1 : decide (op.instr < 0) = false := decide_eq_false (by have := of_decide_eq_true c0; omega)
  have b2 : decide ((m.instrs.length : Int) ≤ op.instr) = false := decide_eq_false (by have := of_decide_eq_true c0; omega)
  have b3 : (!decide (m.address = 16) && !decide (m.address = 32)) = false := by rcases ha with h | h <;> rw [h] <;> rfl
  have b4 : decide ((s.operands.length : Int) = (op.args.length : Int)) = true := decide_eq_true (by omega)
  simp only [Mc.d, Mo.d] at k1
  have hfin : ∀ (i : Nat), i ≤ s.operands.length → atN s.operands i ≤ i := fun i _ => by
    unfold atN
    have h1 := List.length_filter_le (fun o : Opn => !decide (o.kind = 1)) (s.operands.take i)
    rw [List.length_take] at h1; omega
  have h20 : s.operands.length ≤ 20 := by omega
  have hend : IntKind.i64.wrap ((atN s.operands s.operands.length : Int) + 1) = ((atN s.operands s.operands.length + 1 : Nat) : Int) := wr _ (by have := hfin _ (Nat.le_refl _); omega) (by have := hfin _ (Nat.le_refl _); omega)
  have b5 : decide (((atN s.operands s.operands.length + 1 : Nat) : Int) = (V.length : Int)) = true := decide_eq_true (by omega)
  have b6 : decide (0 ≤ (atN s.operands s.operands.length : Int)) = true := decide_eq_true (by omega)
  have hmain : ∀ {β : Type} (K : Option (Ex × St) → Option β) (σ : St) (v : β), trim [2, 3, 4, 5, 9, 10, 12, 13, 14] 3 σ = some ⟨[(2, .v (.int .u64 pc)), (3, .v (.int .i64 wh)), (4, .rp m.d), (5, .rp op.d), (9, .v (.bool true)), (10, .lst false (V.map Bn.d)), (12, .ptr 2 0), (13, .v (.int .i64 ((0 : Nat) : Int))), (14, .v (.int .i64 ((0 : Nat) : Int)))], [(2, .box s.d)], 3⟩ →
      outK K (ev C N lp10x2 ⟨[(2, .v (.int .u64 pc)), (3, .v (.int .i64 wh)), (4, .rp m.d), (5, .rp op.d), (9, .v (.bool true)), (10, .lst false (V.map Bn.d)), (12, .ptr 2 0), (13, .v (.int .i64 (atN s.operands s.operands.length))), (14, .v (.int .i64 s.operands.length))], [(2, .box s.d)], 3⟩) = some v →
      ∀ I, iter (ev C N lp10x2) (trim [2, 3, 4, 5, 9, 10, 12, 13, 14] 3) N σ = I → K I = some v := by
    intro β K σ v h1 h2
    refine iter_all s.operands (fun i _ => ⟨[(2, .v (.int .u64 pc)), (3, .v (.int .i64 wh)), (4, .rp m.d), (5, .rp op.d), (9, .v (.bool true)), (10, .lst false (V.map Bn.d)), (12, .ptr 2 0), (13, .v (.int .i64 (atN s.operands i))), (14, .v (.int .i64 i))], [(2, .box s.d)], 3⟩) (fun (_ : Unit) _ => ()) (fun _ _ => True) () (by omega) hN h1 trivial ?_ (fun _ => h2)
    intro i _ o hi hiw ho _
    refine ⟨?_, trivial⟩
    have hil2 := (List.getElem?_eq_some_iff.1 ho).1
    have c1 : decide (0 ≤ (i : Int)) = true := decide_eq_true (by omega)
    have hsucc := atN_succ ho
    cases hk1 : decide (o.kind = 1)
    case true =>
      have hsucc' : atN s.operands (i + 1) = atN s.operands i := by rw [hsucc, if_pos (by simpa using hk1)]; rfl
      rw [hsucc']
      simp -dsimp only [lp10x2, Mc.d, Mo.d, Ins.d, Opn.d, hi, hiw, c1, ho, hk1, EVs, ↓EVd, ↓reduceIte, zA, zB, zC, zD, zE, zF, reduceBEq, reduceCtorEq, zG, zH, zI, zJ, zK, dcells, okc]
    have hk1' : ¬ o.kind = 1 := by simpa using hk1
    rw [if_neg hk1'] at hsucc
    have hv := hget ho hk1'
    obtain ⟨n, hn⟩ : ∃ n, op.args[i]? = some n := ⟨_, List.getElem?_eq_getElem (by omega)⟩
    have hsuit := hall i o ho
    unfold suitAt at hsuit
    rw [if_neg hk1', hn, Option.getD_some] at hsuit
    have hrng : rngB o n = true := by
      cases h : rngB o n with
      | true => rfl
      | false => rw [h] at hsuit; simp at hsuit
    obtain ⟨f1, f2, f3, f4⟩ := (hfine.2 s hsm).2 o (List.mem_of_getElem? ho) |>.2 hk1'
    have hnb := rng_bnd f3 f4 f1 f2 hrng
    obtain ⟨p1, p2', _⟩ := chk_ops hR0 hsm ho
    have hsum := field_sum o.pieces 0 p1 (by omega)
    have hsumF : fieldOf o.pieces = (((o.pieces.map fun p => p.len.toNat).sum : Nat) : Int) := by
      unfold fieldOf; rw [show (0 : Int) = ((0 : Nat) : Int) from rfl, hsum, Nat.zero_add]
    have hs32 : (o.pieces.map fun p => p.len.toNat).sum ≤ 32 := by omega
    have hF : (fieldOf o.pieces).toNat = (o.pieces.map fun p => p.len.toNat).sum := by rw [hsumF]; simp
    have hik : i < op.args.length := by omega
    have hat := hfin i (by omega)
    have hatl : atN s.operands i < V.length := (List.getElem?_eq_some_iff.1 hv).1
    have e1 : decide ((V.length : Int) ≤ (atN s.operands i : Int)) = false := decide_eq_false (by omega)
    have e2 : decide (0 ≤ (atN s.operands i : Int)) = true := decide_eq_true (by omega)
    have e3 : IntKind.i64.wrap ((atN s.operands i : Int) + 1) = ((atN s.operands i + 1 : Nat) : Int) := wr _ (by omega) (by omega)
    rw [hsucc]
    have hoff := rng_off f3 hrng
    rw [hF] at hoff
    have hp1 := p2_pos (o.pieces.map fun p => p.len.toNat).sum
    have hp2 := p2_mono (a := (o.pieces.map fun p => p.len.toNat).sum) (b := 32) hs32
    have hp32 : p2 32 = 4294967296 := by decide
    have hd1 := p2_pos o.scale.toNat
    have hd2 : o.scale = 0 ∨ o.scale = 1 ∨ o.scale = 2 ∨ o.scale = 3 := by omega
    have hsh : IntKind.i64.wrap (p2 (o.pieces.map fun p => p.len.toNat).sum * 2 ^ (min (IntKind.u64.wrap o.scale).toNat IntKind.i64.bits)) = p2 (o.pieces.map fun p => p.len.toNat).sum * p2 o.scale.toNat := by
      have a0 : p2 (0 : Int).toNat = 1 := by decide
      have a1 : p2 (1 : Int).toNat = 2 := by decide
      have a2 : p2 (2 : Int).toNat = 4 := by decide
      have a3 : p2 (3 : Int).toNat = 8 := by decide
      have z0 : (2 : Int) ^ (min (IntKind.u64.wrap 0).toNat IntKind.i64.bits) = 1 := by decide
      have z1 : (2 : Int) ^ (min (IntKind.u64.wrap 1).toNat IntKind.i64.bits) = 2 := by decide
      have z2 : (2 : Int) ^ (min (IntKind.u64.wrap 2).toNat IntKind.i64.bits) = 4 := by decide
      have z3 : (2 : Int) ^ (min (IntKind.u64.wrap 3).toNat IntKind.i64.bits) = 8 := by decide
      rcases hd2 with h | h | h | h <;> rw [h]
      · rw [a0, z0]; exact wr _ (by omega) (by omega)
      · rw [a1, z1]; exact wr _ (by omega) (by omega)
      · rw [a2, z2]; exact wr _ (by omega) (by omega)
      · rw [a3, z3]; exact wr _ (by omega) (by omega)
    have hDb : 0 ≤ p2 (o.pieces.map fun p => p.len.toNat).sum * p2 o.scale.toNat ∧ p2 (o.pieces.map fun p => p.len.toNat).sum * p2 o.scale.toNat ≤ 34359738368 := by
      have a0 : p2 (0 : Int).toNat = 1 := by decide
      have a1 : p2 (1 : Int).toNat = 2 := by decide
      have a2 : p2 (2 : Int).toNat = 4 := by decide
      have a3 : p2 (3 : Int).toNat = 8 := by decide
      rcases hd2 with h | h | h | h <;> rw [h]
      · rw [a0]; omega
      · rw [a1]; omega
      · rw [a2]; omega
      · rw [a3]; omega
    have hu := hoff 1 (.inl rfl)
    have hdn := hoff (-1) (.inr rfl)
    rw [Int.one_mul] at hu
    rw [Int.neg_mul, Int.one_mul, ← Int.sub_eq_add_neg] at hdn
    generalize p2 (o.pieces.map fun p => p.len.toNat).sum * p2 o.scale.toNat = DD at *
    have hadd : IntKind.i64.wrap (n + DD) = n + DD := wr _ (by omega) (by omega)
    have hsub : IntKind.i64.wrap (n - DD) = n - DD := wr _ (by omega) (by omega)
    have hset : ∀ v : Int, I64 v → ∀ a ∈ op.args.set i v, I64 a := fun v hv a ha => by
      rcases List.mem_or_eq_of_mem_set ha with h | h
      · exact hargs a h
      · subst h; exact hv
    have kup := @e_COp m ⟨op.instr, op.args.set i (n + DD)⟩ ⟨t2, fun h => (chk_fine (hck ▸ h)).1, hset _ ⟨by omega, by omega⟩⟩
    have kdn := @e_COp m ⟨op.instr, op.args.set i (n - DD)⟩ ⟨t2, fun h => (chk_fine (hck ▸ h)).1, hset _ ⟨by omega, by omega⟩⟩
    have hcp : ∀ v : Int, rngB o v = false → cop m ⟨op.instr, op.args.set i v⟩ = 24 := fun v hv => by
      unfold cop
      rw [h0.1, suits_off hR0 (by have := hfine.1; omega) h0.2 hs ho hk1' hv hik]
      rfl
    rw [hcp _ hu] at kup
    rw [hcp _ hdn] at kdn
    simp only [Mc.d, Mo.d] at kup kdn
    have e4 : decide (0 ≤ o.scale) = true := decide_eq_true (by omega)
    have e5 : decide (o.scale ≤ 3) = true := decide_eq_true (by omega)
    have e6 : decide (op.args.length * 8 ≤ 140737488355328) = true := decide_eq_true (by omega)
    have e7 : (op.args.map iD).isEmpty = false := by
      cases h : op.args with
      | nil => rw [h] at hik; simp at hik
      | cons x l => rfl
    have e8 : decide ((i : Int) < (op.args.length : Int)) = true := decide_eq_true (by omega)
    have e9 : decide (0 ≤ (i : Int)) = true := decide_eq_true (by omega)
    have e10 : i + 1 ≤ op.args.length := hik
    have e11 : decide (op.args.length = op.args.length) = true := decide_eq_true rfl
    rw [hn, Option.getD_some] at hv
    have hm := mask_w ha
    have e12 : decide (IntKind.u64.wrap m.address < 0) = false := by rcases ha with h | h <;> rw [h] <;> decide
    have e13 : decide (IntKind.u64.wrap o.scale < 0) = false := by rcases hd2 with h | h | h | h <;> rw [h] <;> decide
    cases hk4 : decide (o.kind = 4)
    · have hbits := (bits_m ha hw (pc := pc) (n := n) hpc).2
      have hvN : vB m pc o n = ⟨o.name, m.address, n % p2 m.address.toNat⟩ := by unfold vB vN; rw [if_neg (by simpa using hk4)]
      rw [hvN, ← hbits, ← hm] at hv
      unfold uand at hv
      simp -dsimp only [lp10x2, Mc.d, Mo.d, Ins.d, Opn.d, hi, hiw, c1, ho, hk1, hk4, hn, iD, hm, e1, e2, e12, hv, Bn.d, hd, hdS, layd, e3, EVs, ↓EVd, ↓reduceIte, zA, zB, zC, zD, zE, zF, reduceBEq, reduceCtorEq, zG, zH, zI, zJ, zK, dcells, okc]
      generalize hI : iter _ _ _ _ = I
      revert I
      refine fl_step C N hN m s o op pc wh V (atN s.operands i + 1) i p1 p2' hs32 _ _ _ ?_ ?_
      · simp -dsimp only [flS, Mc.d, Mo.d, Ins.d, Opn.d, EVs, ↓EVd, ↓reduceIte, zA, zB, zC, zD, zE, zF, reduceBEq, reduceCtorEq, zG, zH, zI, zJ, zK, dcells, okc]
      · cases hwh : decide ((i : Int) = wh)
        · simp -dsimp only [lp10x1, flS, Mc.d, Mo.d, Ins.d, Opn.d, hwh, hiw, EVs, ↓EVd, ↓reduceIte, zA, zB, zC, zD, zE, zF, reduceBEq, reduceCtorEq, zG, zH, zI, zJ, zK, dcells, okc]
        · simp -dsimp only [EVm, lp10x1, flS, Mc.d, Mo.d, Ins.d, Opn.d, hwh, hiw, e4, e5, e6, e7, flat_i, iD_one, e8, e9, iV_get hn, e13, hsh, hadd, hsub, e10, Nat.mul_one, iV_set hik, layd, iV_cls, iV_sing, List.length_set, e11, hO, kup, kdn, Int.reduceEq, iV_idlt, EVs, ↓EVd, ↓reduceIte, zA, zB, zC, zD, zE, zF, reduceBEq, reduceCtorEq, zG, zH, zI, zJ, zK, dcells, okc]
    · have hvN : vB m pc o n = ⟨o.name, m.address, (pc + m.word * (n + 1)) % p2 m.address.toNat⟩ := by unfold vB vN; rw [if_pos (by simpa using hk4)]
      have hbits := (bits_m ha hw (pc := pc) (n := pc + m.word * (n + 1)) hpc).2
      rw [hvN, ← hbits, ← hm] at hv
      unfold uand at hv
      have hm4 : m.word = 1 ∨ m.word = 2 ∨ m.word = 3 ∨ m.word = 4 := by omega
      have hpc0 := hpc.1
      have w1 : IntKind.i64.wrap pc = pc := wr _ (by omega) (by omega)
      have w2 : IntKind.i64.wrap (n + 1) = n + 1 := wr _ (by omega) (by omega)
      have w3 : IntKind.i64.wrap (m.word * (n + 1)) = m.word * (n + 1) := by rcases hm4 with h | h | h | h <;> rw [h] <;> exact wr _ (by omega) (by omega)
      have w4 : IntKind.i64.wrap (pc + m.word * (n + 1)) = pc + m.word * (n + 1) := by rcases hm4 with h | h | h | h <;> rw [h] <;> exact wr _ (by omega) (by omega)
      simp -dsimp only [lp10x2, Mc.d, Mo.d, Ins.d, Opn.d, hi, hiw, c1, ho, hk1, hk4, hn, iD, w1, w2, w3, w4, hm, e1, e2, e12, hv, Bn.d, hd, hdS, layd, e3, EVs, ↓EVd, ↓reduceIte, zA, zB, zC, zD, zE, zF, reduceBEq, reduceCtorEq, zG, zH, zI, zJ, zK, dcells, okc]
      generalize hI : iter _ _ _ _ = I
      revert I
      refine fl_step C N hN m s o op pc wh V (atN s.operands i + 1) i p1 p2' hs32 _ _ _ ?_ ?_
      · simp -dsimp only [flS, Mc.d, Mo.d, Ins.d, Opn.d, EVs, ↓EVd, ↓reduceIte, zA, zB, zC, zD, zE, zF, reduceBEq, reduceCtorEq, zG, zH, zI, zJ, zK, dcells, okc]
      · cases hwh : decide ((i : Int) = wh)
        · simp -dsimp only [lp10x1, flS, Mc.d, Mo.d, Ins.d, Opn.d, hwh, hiw, EVs, ↓EVd, ↓reduceIte, zA, zB, zC, zD, zE, zF, reduceBEq, reduceCtorEq, zG, zH, zI, zJ, zK, dcells, okc]
        · simp -dsimp only [EVm, lp10x1, flS, Mc.d, Mo.d, Ins.d, Opn.d, hwh, hiw, e4, e5, e6, e7, flat_i, iD_one, e8, e9, iV_get hn, e13, hsh, hadd, hsub, e10, Nat.mul_one, iV_set hik, layd, iV_cls, iV_sing, List.length_set, e11, hO, kup, kdn, Int.reduceEq, iV_idlt, EVs, ↓EVd, ↓reduceIte, zA, zB, zC, zD, zE, zF, reduceBEq, reduceCtorEq, zG, zH, zI, zJ, zK, dcells, okc]
  have hlast' := hlast
  simp only [strK] at hlast'
  have hfinish : ∀ (q16 q32 : Bool), decide (m.address = 16) = q16 → decide (m.address = 32) = q32 → (q16 = true ∨ q16 = false ∧ q32 = true) → runE C N ir10 [.agg m.d, .agg op.d, .v (.int .u64 pc), .v (.int .i64 wh)] = some (.v (.bool true)) := by
    intro q16 q32 h16 h32 hq
    rcases hq with rfl | ⟨rfl, rfl⟩
    · simp -dsimp only [runE, run_eq, ir10, Mc.d, Mo.d, Ins.d, hA, eA, hG, eG, g1, g2, hV, k1, b1, b2, h16, b4, c0, hs, EVs, ↓EVd, ↓reduceIte, zA, zB, zC, zD, zE, zF, reduceBEq, reduceCtorEq, zG, zH, zI, zJ, zK, dcells, okc]
      generalize hI : iter _ _ _ _ = I
      revert I
      refine hmain _ _ _ ?_ ?_
      · simp -dsimp only [Mc.d, Mo.d, Ins.d, EVs, ↓EVd, ↓reduceIte, zA, zB, zC, zD, zE, zF, reduceBEq, reduceCtorEq, zG, zH, zI, zJ, zK, dcells, okc]
      · simp -dsimp only [lp10x2, Mc.d, Mo.d, Ins.d, hend, b5, b6, hlast', Bn.d, hd, hdS, layd, EVs, ↓EVd, ↓reduceIte, zA, zB, zC, zD, zE, zF, reduceBEq, reduceCtorEq, zG, zH, zI, zJ, zK, dcells, okc]
    · simp -dsimp only [runE, run_eq, ir10, Mc.d, Mo.d, Ins.d, hA, eA, hG, eG, g1, g2, hV, k1, b1, b2, h16, h32, b4, c0, hs, EVs, ↓EVd, ↓reduceIte, zA, zB, zC, zD, zE, zF, reduceBEq, reduceCtorEq, zG, zH, zI, zJ, zK, dcells, okc]
      generalize hI : iter _ _ _ _ = I
      revert I
      refine hmain _ _ _ ?_ ?_
      · simp -dsimp only [Mc.d, Mo.d, Ins.d, EVs, ↓EVd, ↓reduceIte, zA, zB, zC, zD, zE, zF, reduceBEq, reduceCtorEq, zG, zH, zI, zJ, zK, dcells, okc]
      · simp -dsimp only [lp10x2, Mc.d, Mo.d, Ins.d, hend, b5, b6, hlast', Bn.d, hd, hdS, layd, EVs, ↓EVd, ↓reduceIte, zA, zB, zC, zD, zE, zF, reduceBEq, reduceCtorEq, zG, zH, zI, zJ, zK, dcells, okc]
  rcases ha with h | h
  · exact hfinish true (decide (m.address = 32)) (decide_eq_true h) rfl (.inl rfl)
  · exact hfinish false true (decide_eq_false (by omega)) (decide_eq_true h) (.inr ⟨rfl, rfl⟩)
end Go.Proofs.Dv
