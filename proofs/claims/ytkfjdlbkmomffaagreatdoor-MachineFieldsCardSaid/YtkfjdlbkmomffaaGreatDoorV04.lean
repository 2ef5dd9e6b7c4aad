/- A part of the proof of one statement about the given program: a verified evaluator of the model's code, and contracts of functions (WR WS WT WU XA XB XC XD XE XF XG XH XI XK PA PB PC PD Dvu Dvw YN YG YT ZA ZB ZC ZD Dvz ZE ZF ZG ZH). No condition of its own. -/
import Derived.OpenShut
import Derived.Carry
import Derived.Test.YtkfjdlbkmomffaaGreatDoorV03
set_option linter.unusedVariables false
set_option linter.unusedSimpArgs false
set_option linter.defProp false
set_option linter.constructorNameAsVariable false
set_option linter.unusedVariables false
set_option linter.unusedSimpArgs false
set_option maxRecDepth 100000
namespace Go.Proofs.Dv
open Go.RowKit
open Nat renaming reduceEqDiff → zA, reduceAdd → zB, reduceSub → zC, reduceLeDiff → zD, reduceLT → zE, reduceMul → zF
open Int renaming reduceToNat → zG, reduceLE → zH, reduceLT → zI
open List renaming set_cons_zero → zJ, set_cons_succ → zK
theorem Ckr.consr {id nx k z : Nat} {m : Mc} {H : Bool → List (Nat × Blk)} {els : List (List D)} (h : Ckr id nx m H) (hk : nx ≤ k) : Ckr id (k + 1) m (fun ok => (k, .row z els) :: H ok) := by
  have h' := h.mono (show nx ≤ k + 1 by omega)
  have hi := h.i
  simp only [decide_eq_true_eq] at hi
  refine ⟨fun ok => ?_, fun ok ok' => ?_, fun ok => ?_, fun ok => ?_, h'.i⟩
  · simp only [lkh]; rw [if_neg (by omega)]; exact h.lk ok
  · simp only [uph]; rw [if_neg (by omega), h.up]
  · rw [idl.2.2.2.2.2.2.2.2.2.2.2.2.2.2.1, h'.a]
  · rw [List.filter_cons, if_pos (by simp), h'.b]
theorem Ckr.consm {id nx k : Nat} {m : Mc} {H : Bool → List (Nat × Blk)} {es : List (Value × Value)} (h : Ckr id nx m H) (hk : nx ≤ k) : Ckr id (k + 1) m (fun ok => (k, .map es) :: H ok) := by
  have h' := h.mono (show nx ≤ k + 1 by omega)
  have hi := h.i
  simp only [decide_eq_true_eq] at hi
  refine ⟨fun ok => ?_, fun ok ok' => ?_, fun ok => ?_, fun ok => ?_, h'.i⟩
  · simp only [lkh]; rw [if_neg (by omega)]; exact h.lk ok
  · simp only [uph]; rw [if_neg (by omega), h.up]
  · rw [idl.2.2.2.2.2.2.2.2.2.2.2.2.2.2.2, h'.a]
  · rw [List.filter_cons, if_pos (by simp), h'.b]
def HI (H : Bool → List (Nat × Blk)) (i : Ins) (ok : Bool) (ns : List ByteArray) : List (Nat × Blk) := (7, .box [.own 6 ns.length]) :: (6, .row 1 (ns.map strD)) :: (5, .box i.d) :: H ok
theorem HI_ck {m : Mc} {H : Bool → List (Nat × Blk)} (hk : Ckr 1 5 m H) (i : Ins) (ns : List ByteArray) : Ckr 1 8 m (fun ok => HI H i ok ns) :=
  ((hk.cons (k := 5) (b := i.d) (Nat.le_refl _) rfl).consr (k := 6) (by omega)).cons (k := 7) (by omega) rfl
theorem HI_nm {m : Mc} {H : Bool → List (Nat × Blk)} (hk : Ckr 1 5 m H) (i : Ins) (ok : Bool) (o : Opn) : Nmr 7 6 9 (fun ns => (8, .box o.d) :: HI H i ok ns) := by
  have ha := (hk.mono (show 5 ≤ 9 by omega)).a
  have hb := (hk.mono (show 5 ≤ 9 by omega)).b
  constructor <;> intros <;> simp -dsimp only [HI, Ins.d, Opn.d, List.map_append, List.length_append, ha, hb, EVs, ↓EVd, ↓reduceIte, zA, zB, zC, zD, zE, zF, reduceBEq, reduceCtorEq, zG, zH, zI, zJ, zK, dcells, okc]
def uandn (a b : Int) : Int := IntKind.u64.wrap ((BitVec.ofInt IntKind.u64.bits a &&& ~~~(BitVec.ofInt IntKind.u64.bits b)).toNat : Int)
theorem foldN : (∀ {a b : Int}, IntKind.u64.wrap ((BitVec.ofInt IntKind.u64.bits a &&& ~~~(BitVec.ofInt IntKind.u64.bits b)).toNat : Int) = uandn a b) ∧ (∀ {m : Mc}, IntKind.i64.wrap (8 * m.word) = W8 m) := ⟨rfl, rfl⟩
def OperandC (C : Ctx) : Prop := C.T 107 = none ∧ ∀ {m : Mc} {H : Bool → List (Nat × Blk)}, Ckr 1 9 m H → ∀ (i : Ins) (k : Nat) (o : Opn), i.operands[k]? = some o → o.pieces.length ≤ 1000 → m.banks.length ≤ 1000 → i.operands.length ≤ 1000 → ∀ ok, (ok = true → inB m.word 1 4 = true) →
    C.cal 107 [.ptr 1 0, .agg i.d, .v (.int .i64 k)] (H ok) 9 = some (.v (.int .u64 (opS m i k o ok).2), H (opS m i k o ok).1, 9)
def opStep (m : Mc) (i : Ins) (a : Nat × Bool × List ByteArray × Int) (o : Opn) : Nat × Bool × List ByteArray × Int :=
  let r := opS m i a.1 o (a.2.1 && freshB a.2.2.1 o.name)
  (a.1 + 1, r.1 && decide (uand a.2.2.2 r.2 = 0), a.2.2.1 ++ [o.name], uor a.2.2.2 r.2)
def opsS (m : Mc) (i : Ins) (ok : Bool) : Nat × Bool × List ByteArray × Int := i.operands.foldl (opStep m i) (0, ok && (decide (uandn i.mask (mskI (W8 m)) = 0) && decide (uandn i.match_ i.mask = 0)), [strK [112, 99]], i.mask)
def eN (m : List (Int × Int)) : List (Value × Value) := m.map fun p => (.int .u8 p.1, .int .i64 p.2)
def bF (n : Int) : List (Int × Int) → Nat → Option (Nat × Int)
  | [], _ => none
  | (k, w) :: m, i => if n = k then some (i, w) else bF n m (i + 1)
theorem mfind_b (n : Int) : ∀ (m : List (Int × Int)) (i : Nat), mfind false (.int .u8 n) (eN m) i = some ((bF n m i).map fun p => (p.1, .int .i64 p.2))
  | [], i => rfl
  | (k, w) :: m, i => by
    have ih := mfind_b n m (i + 1)
    simp only [eN, List.map_cons, mfind, sameK, bF] at ih ⊢
    by_cases h : n = k
    · subst h; simp
    · rw [if_neg h]
      simp only [if_true, show (n == k) = false by simpa using h]
      exact ih
def bGet (m : List (Int × Int)) (n : Int) : Int := ((bF n m 0).map (·.2)).getD 0
def bPut (m : List (Int × Int)) (n w : Int) : List (Int × Int) := match bF n m 0 with | some (i, _) => m.set i (n, w) | none => m ++ [(n, w)]
theorem mset_b {vs : List (Int × Int)} {n w : Int} : mset (.int .u8 n) (.int .i64 w) (eN vs) ((bF n vs 0).map fun p => (p.1, .int .i64 p.2)) = eN (bPut vs n w) := by
  unfold bPut
  cases h : bF n vs 0 with
  | none => rw [Option.map_none, mset_none]; simp [eN]
  | some p => obtain ⟨i, v⟩ := p; rw [Option.map_some, mset_some]; simp [eN, List.map_set]
theorem mlkR_b {vs : List (Int × Int)} {n : Int} : mlkR false (.int .i64 0) ((bF n vs 0).map fun p => (p.1, .int .i64 p.2)) = .v (.int .i64 (bGet vs n)) := by
  unfold bGet
  cases h : bF n vs 0 with
  | none => rw [Option.map_none, mlkR_none]; rfl
  | some p => obtain ⟨i, v⟩ := p; rw [Option.map_some, mlkR_some]; rfl
def cntE (es : List Ef) : List (Int × Int) := es.foldl (fun c e => bPut c e.kind (IntKind.i64.wrap (bGet c e.kind + 1))) []
def insTail (m : Mc) (i : Ins) : Bool := decide (bGet (cntE i.effects) 3 ≤ 1) && ((decide (bGet (cntE i.effects) 4 = 0) || decide ((i.effects.length : Int) = 1)) && (inB i.unit 0 (IntKind.i64.wrap ((m.units.length : Int) - 1)) && (inB i.busy 1 15 && (inB i.latency 1 15 && (inB i.slots 0 2 && (decide (i.slots = 0) || decide (bGet (cntE i.effects) 3 = 1)))))))
def insOK (m : Mc) (i : Ins) (ok : Bool) : Bool := (opsS m i ok).2.1 && (i.effects.all (effOK m i (varsM m i)) && insTail m i)
theorem opTail_ok {m : Mc} {i : Ins} {k : Nat} {o : Opn} {a : Bool × Int} (h : (opTail m i k o a).1 = true) : a.1 = true ∧ (o.kind = 1 → inB o.bank 0 (IntKind.i64.wrap ((m.banks.length : Int) - 1)) = true) := by
  unfold opTail at h
  by_cases k1 : o.kind = 1
  · rw [if_pos k1] at h
    by_cases q : (a.1 && (inB o.bank 0 (IntKind.i64.wrap ((m.banks.length : Int) - 1)) && decide (o.scale = 0))) = false
    · rw [if_pos q] at h; simp at h
    · simp only [Bool.not_eq_false, Bool.and_eq_true] at q
      exact ⟨q.1, fun _ => q.2.1⟩
  · rw [if_neg k1] at h
    refine ⟨?_, fun h => absurd h k1⟩
    split at h
    · simp only [Bool.and_eq_true] at h; exact h.1
    · simp at h
theorem pcS_ok {m : Mc} {ok : Bool} {o : Opn} {a : Bool × Int} (h : pcS m ok o = .go a) (ha : a.1 = true) : ok = true := by
  unfold pcS at h
  cases hp : o.pieces with
  | nil => rw [hp] at h; simp only [scan, Sc.go.injEq] at h; subst h; exact ha
  | cons p ps =>
    rw [hp] at h
    simp only [scan, tst] at h
    cases ht : pcT m (ok, 0) p with
    | false => rw [ht] at h; simp at h
    | true => simp only [pcT, Bool.and_eq_true] at ht; exact ht.1
theorem opS_ok {m : Mc} {i : Ins} {k : Nat} {o : Opn} {ok : Bool} (h : (opS m i k o ok).1 = true) : ok = true ∧ (o.kind = 1 → inB o.bank 0 (IntKind.i64.wrap ((m.banks.length : Int) - 1)) = true) := by
  unfold opS at h
  cases hp : pcS m ok o with
  | out b => rw [hp] at h; simp at h
  | go a =>
    rw [hp] at h
    obtain ⟨h1, h2⟩ := opTail_ok h
    exact ⟨pcS_ok hp h1, h2⟩
theorem opsF_ok {m : Mc} {i : Ins} : ∀ (l : List Opn) (a : Nat × Bool × List ByteArray × Int), (l.foldl (opStep m i) a).2.1 = true → a.2.1 = true ∧ ∀ o ∈ l, o.kind = 1 → inB o.bank 0 (IntKind.i64.wrap ((m.banks.length : Int) - 1)) = true
  | [], a, h => ⟨h, fun o ho => by simp at ho⟩
  | o :: l, a, h => by
    obtain ⟨h1, h2⟩ := opsF_ok l _ h
    simp only [opStep, Bool.and_eq_true] at h1
    obtain ⟨h3, h4⟩ := opS_ok h1.1
    simp only [Bool.and_eq_true] at h3
    refine ⟨h3.1, fun q hq => ?_⟩
    rcases List.mem_cons.1 hq with rfl | hq
    · exact h4
    · exact h2 q hq
theorem wide_of {m : Mc} {o : Opn} (hl : m.banks.length ≤ 1000000) (hb : ∀ b ∈ m.banks, ∃ r g, b.regs[0]? = some r ∧ atI m.regs r = some g) (h : o.kind = 1 → inB o.bank 0 (IntKind.i64.wrap ((m.banks.length : Int) - 1)) = true) : (wideO m o).isSome = true := by
  unfold wideO
  by_cases k1 : o.kind = 1
  · rw [if_pos k1]
    obtain ⟨q1, b, q2⟩ := inB_get hl (h k1)
    obtain ⟨r, g, e1, e2⟩ := hb b (List.mem_of_getElem? q2)
    have : atI m.banks o.bank = some b := by unfold atI; rw [if_pos (by simpa using q1), q2]
    rw [this]
    simp [e1, e2]
  · rw [if_neg k1]; rfl
def MvarsC (C : Ctx) : Prop := C.T 108 = none ∧ ∀ {m : Mc} {H : Bool → List (Nat × Blk)}, Ckr 1 8 m H → ∀ (i : Ins) (ok : Bool), m.regs.length ≤ 1000 → i.operands.length ≤ 1000 → (∀ r ∈ m.regs, r.name.size ≤ 1000) → (∀ o ∈ i.operands, (wideO m o).isSome = true) →
    C.cal 108 [.ptr 1 0, .agg i.d] (H ok) 8 = some (.mp 9, (9, .map (eM (varsM m i))) :: (8, .box i.d) :: H ok, 10)
def EffectC (C : Ctx) : Prop := C.T 109 = none ∧ ∀ {m : Mc} {vs : List (ByteArray × Int)} {H : Bool → List (Nat × Blk)}, Lvs 1 9 12 m vs H → ∀ (i : Ins) (e : Ef), m.regs.length ≤ 1000 → i.operands.length ≤ 1000 → (∀ o ∈ i.operands, (wideO m o).isSome = true) → TOK e.addr → TOK e.value → TOK e.cond → ∀ ok,
    C.cal 109 [.ptr 1 0, .agg i.d, .agg e.d, .mp 9] (H ok) 12 = some (.tup [], H (ok && effOK m i vs e), 12)
def InsZ (i : Ins) : Prop := i.operands.length ≤ 1000 ∧ i.effects.length ≤ 1000 ∧ (∀ o ∈ i.operands, o.pieces.length ≤ 1000) ∧ ∀ e ∈ i.effects, TOK e.addr ∧ TOK e.value ∧ TOK e.cond
theorem elm7 {zero : List D} {a b c d e f g : D} : elems zero [(0, a), (1, b), (2, c), (3, d), (4, e), (5, f), (6, g)] 7 = [dcells a, dcells b, dcells c, dcells d, dcells e, dcells f, dcells g] := rfl
set_option maxHeartbeats 2000000 in
theorem c_instr (C : Ctx) (N : Nat) (hN : maxLen + 10 < N) (hM : MustC C) (hF : FreshC C) (hO : OperandC C) (hV : MvarsC C) (hE : EffectC C) (hW : C.T 58 = some s_in) (hK : C.T 89 = some s_Mask) {m : Mc} {H : Bool → List (Nat × Blk)} (hk : Ckr 1 5 m H) (i : Ins) (hz : InsZ i)
    (hr : m.regs.length ≤ 1000) (hb : m.banks.length ≤ 1000) (ok : Bool) (hw : ok = true → inB m.word 1 4 = true) (hn : ok = true → ∀ r ∈ m.regs, r.name.size ≤ 1000) (hbk : ok = true → ∀ b ∈ m.banks, ∃ r g, b.regs[0]? = some r ∧ atI m.regs r = some g) :
    gcr 5 (run C N ir63 [.ptr 1 0, .agg i.d] (H ok) 5) = some (.tup [], H (insOK m i ok), 5) := by
  have hml := maxLen_ge
  have ha := hk.a
  have hb5 := hk.b
  have hlk := hk.lk
  have ha8 := (hk.mono (show 5 ≤ 8 by omega)).a
  have hb8 := (hk.mono (show 5 ≤ 8 by omega)).b
  have ha11 := (hk.mono (show 5 ≤ 11 by omega)).a
  have hb11 := (hk.mono (show 5 ≤ 11 by omega)).b
  have m6 := fun ok => (mustE hM (hk.cons (k := 5) (b := i.d) (Nat.le_refl _) rfl)).2.1 ok
  simp only [Ins.d] at m6
  simp only [cD] at hlk
  have e0 := @e_Mask (W8 m)
  simp -dsimp only [run_eq, ir63, Ins.d, hlk, foldN, hK, e0, hM.1, m6, strK_d, layd, EVs, ↓EVd, ↓reduceIte, zA, zB, zC, zD, zE, zF, reduceBEq, reduceCtorEq, zG, zH, zI, zJ, zK, dcells, okc]
  generalize hI : iter _ _ _ _ = I
  revert I
  refine iter_all i.operands (fun j (a : Nat × Bool × List ByteArray × Int) => ⟨[(0, .ptr 1 0), (3, .ptr 5 0), (4, .ptr 7 0), (5, .v (.int .u64 a.2.2.2)), (39, .lst false (i.operands.map Opn.d)), (40, .v (.int .i64 i.operands.length)), (41, .v (.int .i64 j))], HI H i a.2.1 a.2.2.1, 8⟩)
    (opStep m i) (fun j a => a.1 = j ∧ a.2.2.1.length = j + 1 ∧ (a.2.1 = true → ok = true)) (0, ok && (decide (uandn i.mask (mskI (W8 m)) = 0) && decide (uandn i.match_ i.mask = 0)), [strK [112, 99]], i.mask) (by have := hz.1; omega) hN ?_ ?_ ?_ ?_
  · simp -dsimp only [HI, Ins.d, ha8, hb8, strD, EVs, ↓EVd, ↓reduceIte, zA, zB, zC, zD, zE, zF, reduceBEq, reduceCtorEq, zG, zH, zI, zJ, zK, dcells, okc]
  · exact ⟨rfl, rfl, fun h => by simp only [Bool.and_eq_true] at h; exact h.1⟩
  · rintro j ⟨j', okj, ns, mask⟩ o hj hjw ho ⟨rfl, hlen, hokj⟩
    simp only at hlen hokj
    have hjl : j' < i.operands.length := (List.getElem?_eq_some_iff.1 ho).1
    have hz1 := hz.1
    have k9 := (HI_ck hk i (ns ++ [o.name])).cons (k := 8) (b := o.d) (Nat.le_refl _) rfl
    have h2 := hF.2 (HI_nm hk i okj o) ns (by omega) o.name
    have m1 := fun ok => (mustE hM k9).1 ok
    have h3 := hO.2 k9 i j' o ho (hz.2.2.1 o (List.mem_of_getElem? ho)) hb hz1 (okj && freshB ns o.name) (fun h => hw (hokj (by simp only [Bool.and_eq_true] at h; exact h.1)))
    simp only [HI, Ins.d, Opn.d, List.length_append, List.length_cons, List.length_nil, List.map_append, List.map_cons, List.map_nil] at h2 h3 m1
    refine ⟨?_, rfl, by simp [opStep, hlen], fun h => ?_⟩
    · simp -dsimp only [lp63x0, HI, Ins.d, Opn.d, hj, hjw, ho, hF.1, h2, hM.1, m1, hO.1, h3, opStep, foldU, List.map_append, List.length_append, ha8, hb8, EVs, ↓EVd, ↓reduceIte, zA, zB, zC, zD, zE, zF, reduceBEq, reduceCtorEq, zG, zH, zI, zJ, zK, dcells, okc]
    · simp only [opStep, Bool.and_eq_true] at h
      have := (opS_ok h.1).1
      simp only [Bool.and_eq_true] at this
      exact hokj this.1
  · rintro ⟨-, hlen, hok⟩
    unfold insOK
    have hOK := opsF_ok (m := m) (i := i) i.operands (0, ok && (decide (uandn i.mask (mskI (W8 m)) = 0) && decide (uandn i.match_ i.mask = 0)), [strK [112, 99]], i.mask)
    unfold opsS
    generalize i.operands.foldl (opStep m i) (0, ok && (decide (uandn i.mask (mskI (W8 m)) = 0) && decide (uandn i.match_ i.mask = 0)), [strK [112, 99]], i.mask) = a at hlen hok hOK ⊢
    obtain ⟨k', okf, ns, mask⟩ := a
    simp only at hlen hok hOK
    cases okf
    · simp -dsimp only [lp63x0, HI, Ins.d, hlk, ha, hb5, EVs, ↓EVd, ↓reduceIte, zA, zB, zC, zD, zE, zF, reduceBEq, reduceCtorEq, zG, zH, zI, zJ, zK, dcells, okc]
    · have hokt := hok rfl
      have heN : eN [] = [] := rfl
      have hwd : ∀ o ∈ i.operands, (wideO m o).isSome = true := fun o ho => wide_of (by omega) (hbk hokt) ((hOK rfl).2 o ho)
      have h4 := hV.2 (HI_ck hk i ns) i true hr hz.1 (hn hokt) hwd
      simp only [HI, Ins.d] at h4
      simp -dsimp only [lp63x0, HI, Ins.d, hlk, hV.1, h4, EVs, ↓EVd, ↓reduceIte, zA, zB, zC, zD, zE, zF, reduceBEq, reduceCtorEq, zG, zH, zI, zJ, zK, dcells, okc]
      generalize hJ : iter _ _ _ _ = J
      revert J
      refine iter_all i.effects (fun j (a : Bool × List (Int × Int)) => ⟨[(0, .ptr 1 0), (3, .ptr 5 0), (9, .mp 9), (10, .mp 10), (77, .lst false (i.effects.map Ef.d)), (78, .v (.int .i64 i.effects.length)), (79, .v (.int .i64 j))], (10, .map (eN a.2)) :: (9, .map (eM (varsM m i))) :: (8, .box i.d) :: HI H i a.1 ns, 11⟩)
        (fun a e => (a.1 && effOK m i (varsM m i) e, bPut a.2 e.kind (IntKind.i64.wrap (bGet a.2 e.kind + 1)))) (fun _ _ => True) (true, []) (by have := hz.2.1; omega) hN ?_ trivial ?_ ?_
      · simp -dsimp only [HI, Ins.d, ha11, hb11, heN, EVs, ↓EVd, ↓reduceIte, zA, zB, zC, zD, zE, zF, reduceBEq, reduceCtorEq, zG, zH, zI, zJ, zK, dcells, okc]
      · rintro j ⟨okj, cnt⟩ e hj hjw he _
        refine ⟨?_, trivial⟩
        have hte := hz.2.2.2 e (List.mem_of_getElem? he)
        have k12 : Ckr 1 12 m (fun ok => (11, .box e.d) :: (10, .map (eN cnt)) :: (9, .map (eM (varsM m i))) :: (8, .box i.d) :: HI H i ok ns) :=
          ((((HI_ck hk i ns).cons (k := 8) (b := i.d) (Nat.le_refl _) rfl).consm (k := 9) (by omega)).consm (k := 10) (by omega)).cons (k := 11) (by omega) (ef_idlts _ _)
        have h5 := hE.2 (vs := varsM m i) ⟨k12, fun ok => rfl, rfl⟩ i e hr hz.1 hwd hte.1 hte.2.1 hte.2.2 okj
        simp only [HI, Ins.d, Ef.d, T.d_eq, List.cons_append, List.nil_append] at h5
        simp -dsimp only [lp63x1, HI, Ins.d, Ef.d, T.d_eq, hj, hjw, he, hE.1, h5, mfind_b, mlkR_b, mset_b, ha11, hb11, EVs, ↓EVd, ↓reduceIte, zA, zB, zC, zD, zE, zF, reduceBEq, reduceCtorEq, zG, zH, zI, zJ, zK, dcells, okc]
      · intro _
        have hfold : ∀ (l : List Ef) (a : Bool × List (Int × Int)), l.foldl (fun a e => (a.1 && effOK m i (varsM m i) e, bPut a.2 e.kind (IntKind.i64.wrap (bGet a.2 e.kind + 1)))) a = (a.1 && l.all (effOK m i (varsM m i)), l.foldl (fun c e => bPut c e.kind (IntKind.i64.wrap (bGet c e.kind + 1))) a.2) := by
          intro l
          induction l with
          | nil => intro a; simp
          | cons e l ih => intro a; rw [List.foldl_cons, ih]; simp [Bool.and_assoc]
        rw [hfold]
        have k11 : ∀ cnt, Ckr 1 11 m (fun ok => (10, .map (eN cnt)) :: (9, .map (eM (varsM m i))) :: (8, .box i.d) :: HI H i ok ns) := fun cnt =>
          ((((HI_ck hk i ns).cons (k := 8) (b := i.d) (Nat.le_refl _) rfl).consm (k := 9) (by omega)).consm (k := 10) (by omega))
        have m7 := fun cnt ok => (mustE hM (k11 cnt)).2.2.2.2.2 ok
        simp only [HI, Ins.d] at m7
        have hcn : i.effects.foldl (fun c e => bPut c e.kind (IntKind.i64.wrap (bGet c e.kind + 1))) [] = cntE i.effects := rfl
        simp only [hcn, Bool.true_and]
        have i1 := @e_in i.unit 0 (IntKind.i64.wrap ((m.units.length : Int) - 1))
        have i2 := @e_in i.busy 1 15
        have i3 := @e_in i.latency 1 15
        have i4 := @e_in i.slots 0 2
        cases q1 : decide (bGet (cntE i.effects) 4 = 0) <;> cases q2 : decide (i.slots = 0) <;>
          simp -dsimp only [lp63x1, HI, Ins.d, hlk, mfind_b, mlkR_b, hW, i1, i2, i3, i4, q1, q2, hM.1, m7, elm7, ha, hb5, insTail, EVs, ↓EVd, ↓reduceIte, zA, zB, zC, zD, zE, zF, reduceBEq, reduceCtorEq, zG, zH, zI, zJ, zK, dcells, okc]
end Go.Proofs.Dv
set_option linter.unusedVariables false
set_option linter.unusedSimpArgs false
set_option maxRecDepth 100000
namespace Go.Proofs.Dv
open Go.RowKit
open Nat renaming reduceEqDiff → zA, reduceAdd → zB, reduceSub → zC, reduceLeDiff → zD, reduceLT → zE, reduceMul → zF
open Int renaming reduceToNat → zG, reduceLE → zH, reduceLT → zI
open List renaming set_cons_zero → zJ, set_cons_succ → zK
def fewB (lim : Int) (n : Nat) : Bool := decide (max (n : Int) 0 ≤ lim)
theorem fewB_le {lim : Int} {n : Nat} (h : fewB lim n = true) : (n : Int) ≤ lim := by simp only [fewB, decide_eq_true_eq] at h; omega
def smI (i : Ins) : Bool := (fewB 4 i.operands.length && fewB 4 i.effects.length) && i.operands.all fun o => fewB 4 o.pieces.length
def smallOK (m : Mc) : Bool := (((fewB 64 m.regs.length && fewB 16 m.banks.length) && fewB 8 m.units.length) && fewB 64 m.instrs.length) && ((m.banks.all fun b => fewB 64 b.regs.length) && m.instrs.all smI)
theorem fold_all {α : Type} {p : α → Bool} : ∀ (l : List α) (a : Bool), l.foldl (fun b x => b && p x) a = (a && l.all p)
  | [], a => by simp
  | x :: l, a => by rw [List.foldl_cons, fold_all l]; simp [Bool.and_assoc]
def x_SmallM (a : Mc) : List D := match a with | m => [.agg m.d]
theorem i_SmallM : ∀ a b, x_SmallM a = x_SmallM b → a = b := by
  rintro m m' h
  first | simpa [x_SmallM, INJ, and_assoc, Int.ofNat_inj] using h | (simp [x_SmallM, INJ, and_assoc, Int.ofNat_inj] at h; simp_all)
noncomputable def s_SmallM : List D → Option D := sOf x_SmallM fun a => match a with | m => some (.v (.bool (smallOK m)))
theorem e_SmallM {m : Mc} : s_SmallM [.agg m.d] = some (.v (.bool (smallOK m))) := sOf_eq i_SmallM m
theorem R_SmallM {C : Ctx} {F : IFun} (hspec : ∀ N, maxLen + 10 < N → ∀ (m : Mc), lenOK.lenOKs [.agg m.d] → runE C N F [.agg m.d] = some (.v (.bool (smallOK m)))) : Runs C F s_SmallM := runs_of i_SmallM fun N hN m r hl hf => by
  simp only [Option.some.injEq] at hf
  subst hf
  exact hspec N hN m hl
theorem r_small (C : Ctx) (hFw : C.T 105 = some s_Few) : Runs C ir55 s_SmallM := R_SmallM fun N hN m hl => by
  have few : ∀ (lim : Int) (n : Nat), s_Few [.v (.int .i64 lim), .lst true [[.v (.int .i64 n)]]] = some (.v (.bool (fewB lim n))) := fun lim n => @e_Few lim n
  have hlb : m.banks.length ≤ maxLen ∧ m.instrs.length ≤ maxLen := by
    simp only [Mc.d, EVl, List.length_map] at hl
    exact ⟨hl.1.2.2.2.2.1.1, hl.1.2.2.2.2.2.2.1.1⟩
  have hio : ∀ s ∈ m.instrs, s.operands.length ≤ maxLen := by
    intro s hs
    simp only [Mc.d, EVl, List.length_map] at hl
    have := (lenOKss_iff.1 hl.1.2.2.2.2.2.2.1.2) _ (List.mem_map_of_mem hs)
    simp only [Ins.d, EVl, List.length_map] at this
    exact this.2.2.2.1.1
  cases q1 : fewB 64 m.regs.length
  case false =>
    simp -dsimp only [runE, run_eq, ir55, Mc.d, hFw, few, q1, EVs, ↓EVd, ↓reduceIte, zA, zB, zC, zD, zE, zF, reduceBEq, reduceCtorEq, zG, zH, zI, zJ, zK, dcells, okc]
    generalize hI : iter _ _ _ _ = I
    revert I
    refine iter_all m.banks (fun i (b : Bool) => ⟨[(1, .ptr 0 0), (3, .v (.bool b)), (37, .lst false (m.banks.map Bk.d)), (38, .v (.int .i64 m.banks.length)), (39, .v (.int .i64 i))], [(0, .box m.d)], 1⟩) (fun b k => b && fewB 64 k.regs.length) (fun _ _ => True) false hlb.1 hN ?_ trivial ?_ ?_
    · simp -dsimp only [Mc.d, EVs, ↓EVd, ↓reduceIte, zA, zB, zC, zD, zE, zF, reduceBEq, reduceCtorEq, zG, zH, zI, zJ, zK, dcells, okc]
    · intro i b k hi hw hu _
      refine ⟨?_, trivial⟩
      cases b <;> simp -dsimp only [lp55x0, Mc.d, Bk.d, hi, hw, hu, hFw, few, EVs, ↓EVd, ↓reduceIte, zA, zB, zC, zD, zE, zF, reduceBEq, reduceCtorEq, zG, zH, zI, zJ, zK, dcells, okc]
    · intro _
      rw [fold_all]
      simp -dsimp only [lp55x0, Mc.d, EVs, ↓EVd, ↓reduceIte, zA, zB, zC, zD, zE, zF, reduceBEq, reduceCtorEq, zG, zH, zI, zJ, zK, dcells, okc]
      generalize hJ : iter _ _ _ _ = J
      revert J
      refine iter_all m.instrs (fun i (b : Bool) => ⟨[(3, .v (.bool b)), (53, .lst false (m.instrs.map Ins.d)), (54, .v (.int .i64 m.instrs.length)), (55, .v (.int .i64 i))], [(0, .box m.d)], 1⟩) (fun b k => b && smI k) (fun _ _ => True) (false && m.banks.all fun k => fewB 64 k.regs.length) hlb.2 hN ?_ trivial ?_ ?_
      · simp -dsimp only [Mc.d, EVs, ↓EVd, ↓reduceIte, zA, zB, zC, zD, zE, zF, reduceBEq, reduceCtorEq, zG, zH, zI, zJ, zK, dcells, okc]
      · intro i b s hi hw hu _
        refine ⟨?_, trivial⟩
        have hsl : s.operands.length ≤ maxLen := hio s (List.mem_of_getElem? hu)
        have inner : ∀ (b0 : Bool) (nx : Nat) (K : Option (Ex × St) → Option St) (σ : St) (r : St), trim [3, 53, 54, 55, 75, 76, 77] 2 σ = some ⟨[(3, .v (.bool b0)), (53, .lst false (m.instrs.map Ins.d)), (54, .v (.int .i64 m.instrs.length)), (55, .v (.int .i64 i)), (75, .lst false (s.operands.map Opn.d)), (76, .v (.int .i64 s.operands.length)), (77, .v (.int .i64 ((0 : Nat) : Int)))], [(1, .box s.d), (0, .box m.d)], 2⟩ →
            outK K (ev C N lp55x1 ⟨[(3, .v (.bool (b0 && s.operands.all fun o => fewB 4 o.pieces.length))), (53, .lst false (m.instrs.map Ins.d)), (54, .v (.int .i64 m.instrs.length)), (55, .v (.int .i64 i)), (75, .lst false (s.operands.map Opn.d)), (76, .v (.int .i64 s.operands.length)), (77, .v (.int .i64 s.operands.length))], [(1, .box s.d), (0, .box m.d)], 2⟩) = some r →
            ∀ J, iter (ev C N lp55x1) (trim [3, 53, 54, 55, 75, 76, 77] 2) N σ = J → K J = some r := by
          intro b0 nx K σ r htr hfin
          refine iter_all s.operands (fun j (b : Bool) => ⟨[(3, .v (.bool b)), (53, .lst false (m.instrs.map Ins.d)), (54, .v (.int .i64 m.instrs.length)), (55, .v (.int .i64 i)), (75, .lst false (s.operands.map Opn.d)), (76, .v (.int .i64 s.operands.length)), (77, .v (.int .i64 j))], [(1, .box s.d), (0, .box m.d)], 2⟩) (fun b o => b && fewB 4 o.pieces.length) (fun _ _ => True) b0 hsl hN htr trivial ?_ ?_
          · intro j b o hj hjw ho _
            refine ⟨?_, trivial⟩
            cases b <;> simp -dsimp only [lp55x1, Mc.d, Ins.d, Opn.d, hj, hjw, ho, hFw, few, EVs, ↓EVd, ↓reduceIte, zA, zB, zC, zD, zE, zF, reduceBEq, reduceCtorEq, zG, zH, zI, zJ, zK, dcells, okc]
          · intro _
            rw [fold_all]
            exact hfin
        cases b
        · simp -dsimp only [lp55x2, Mc.d, Ins.d, hi, hw, hu, hFw, few, EVs, ↓EVd, ↓reduceIte, zA, zB, zC, zD, zE, zF, reduceBEq, reduceCtorEq, zG, zH, zI, zJ, zK, dcells, okc]
          generalize hJ : iter _ _ _ _ = J
          revert J
          refine inner false 0 _ _ _ ?_ ?_
          · simp -dsimp only [Mc.d, Ins.d, EVs, ↓EVd, ↓reduceIte, zA, zB, zC, zD, zE, zF, reduceBEq, reduceCtorEq, zG, zH, zI, zJ, zK, dcells, okc]
          · simp -dsimp only [lp55x1, Mc.d, Ins.d, hw, EVs, ↓EVd, ↓reduceIte, zA, zB, zC, zD, zE, zF, reduceBEq, reduceCtorEq, zG, zH, zI, zJ, zK, dcells, okc]
        · cases p1 : fewB 4 s.operands.length
          · simp -dsimp only [lp55x2, Mc.d, Ins.d, hi, hw, hu, hFw, few, p1, EVs, ↓EVd, ↓reduceIte, zA, zB, zC, zD, zE, zF, reduceBEq, reduceCtorEq, zG, zH, zI, zJ, zK, dcells, okc]
            generalize hJ : iter _ _ _ _ = J
            revert J
            refine inner false 0 _ _ _ ?_ ?_
            · simp -dsimp only [Mc.d, Ins.d, EVs, ↓EVd, ↓reduceIte, zA, zB, zC, zD, zE, zF, reduceBEq, reduceCtorEq, zG, zH, zI, zJ, zK, dcells, okc]
            · simp -dsimp only [lp55x1, Mc.d, Ins.d, hw, smI, p1, EVs, ↓EVd, ↓reduceIte, zA, zB, zC, zD, zE, zF, reduceBEq, reduceCtorEq, zG, zH, zI, zJ, zK, dcells, okc]
          · simp -dsimp only [lp55x2, Mc.d, Ins.d, hi, hw, hu, hFw, few, p1, EVs, ↓EVd, ↓reduceIte, zA, zB, zC, zD, zE, zF, reduceBEq, reduceCtorEq, zG, zH, zI, zJ, zK, dcells, okc]
            generalize hJ : iter _ _ _ _ = J
            revert J
            refine inner (fewB 4 s.effects.length) 0 _ _ _ ?_ ?_
            · simp -dsimp only [Mc.d, Ins.d, EVs, ↓EVd, ↓reduceIte, zA, zB, zC, zD, zE, zF, reduceBEq, reduceCtorEq, zG, zH, zI, zJ, zK, dcells, okc]
            · simp -dsimp only [lp55x1, Mc.d, Ins.d, hw, smI, p1, EVs, ↓EVd, ↓reduceIte, zA, zB, zC, zD, zE, zF, reduceBEq, reduceCtorEq, zG, zH, zI, zJ, zK, dcells, okc]
      · intro _
        rw [fold_all]
        simp -dsimp only [lp55x2, Mc.d, smallOK, q1, EVs, ↓EVd, ↓reduceIte, zA, zB, zC, zD, zE, zF, reduceBEq, reduceCtorEq, zG, zH, zI, zJ, zK, dcells, okc]
  cases q2 : fewB 16 m.banks.length
  case false =>
    simp -dsimp only [runE, run_eq, ir55, Mc.d, hFw, few, q1, q2, EVs, ↓EVd, ↓reduceIte, zA, zB, zC, zD, zE, zF, reduceBEq, reduceCtorEq, zG, zH, zI, zJ, zK, dcells, okc]
    generalize hI : iter _ _ _ _ = I
    revert I
    refine iter_all m.banks (fun i (b : Bool) => ⟨[(1, .ptr 0 0), (3, .v (.bool b)), (37, .lst false (m.banks.map Bk.d)), (38, .v (.int .i64 m.banks.length)), (39, .v (.int .i64 i))], [(0, .box m.d)], 1⟩) (fun b k => b && fewB 64 k.regs.length) (fun _ _ => True) false hlb.1 hN ?_ trivial ?_ ?_
    · simp -dsimp only [Mc.d, EVs, ↓EVd, ↓reduceIte, zA, zB, zC, zD, zE, zF, reduceBEq, reduceCtorEq, zG, zH, zI, zJ, zK, dcells, okc]
    · intro i b k hi hw hu _
      refine ⟨?_, trivial⟩
      cases b <;> simp -dsimp only [lp55x0, Mc.d, Bk.d, hi, hw, hu, hFw, few, EVs, ↓EVd, ↓reduceIte, zA, zB, zC, zD, zE, zF, reduceBEq, reduceCtorEq, zG, zH, zI, zJ, zK, dcells, okc]
    · intro _
      rw [fold_all]
      simp -dsimp only [lp55x0, Mc.d, EVs, ↓EVd, ↓reduceIte, zA, zB, zC, zD, zE, zF, reduceBEq, reduceCtorEq, zG, zH, zI, zJ, zK, dcells, okc]
      generalize hJ : iter _ _ _ _ = J
      revert J
      refine iter_all m.instrs (fun i (b : Bool) => ⟨[(3, .v (.bool b)), (53, .lst false (m.instrs.map Ins.d)), (54, .v (.int .i64 m.instrs.length)), (55, .v (.int .i64 i))], [(0, .box m.d)], 1⟩) (fun b k => b && smI k) (fun _ _ => True) (false && m.banks.all fun k => fewB 64 k.regs.length) hlb.2 hN ?_ trivial ?_ ?_
      · simp -dsimp only [Mc.d, EVs, ↓EVd, ↓reduceIte, zA, zB, zC, zD, zE, zF, reduceBEq, reduceCtorEq, zG, zH, zI, zJ, zK, dcells, okc]
      · intro i b s hi hw hu _
        refine ⟨?_, trivial⟩
        have hsl : s.operands.length ≤ maxLen := hio s (List.mem_of_getElem? hu)
        have inner : ∀ (b0 : Bool) (nx : Nat) (K : Option (Ex × St) → Option St) (σ : St) (r : St), trim [3, 53, 54, 55, 75, 76, 77] 2 σ = some ⟨[(3, .v (.bool b0)), (53, .lst false (m.instrs.map Ins.d)), (54, .v (.int .i64 m.instrs.length)), (55, .v (.int .i64 i)), (75, .lst false (s.operands.map Opn.d)), (76, .v (.int .i64 s.operands.length)), (77, .v (.int .i64 ((0 : Nat) : Int)))], [(1, .box s.d), (0, .box m.d)], 2⟩ →
            outK K (ev C N lp55x1 ⟨[(3, .v (.bool (b0 && s.operands.all fun o => fewB 4 o.pieces.length))), (53, .lst false (m.instrs.map Ins.d)), (54, .v (.int .i64 m.instrs.length)), (55, .v (.int .i64 i)), (75, .lst false (s.operands.map Opn.d)), (76, .v (.int .i64 s.operands.length)), (77, .v (.int .i64 s.operands.length))], [(1, .box s.d), (0, .box m.d)], 2⟩) = some r →
            ∀ J, iter (ev C N lp55x1) (trim [3, 53, 54, 55, 75, 76, 77] 2) N σ = J → K J = some r := by
          intro b0 nx K σ r htr hfin
          refine iter_all s.operands (fun j (b : Bool) => ⟨[(3, .v (.bool b)), (53, .lst false (m.instrs.map Ins.d)), (54, .v (.int .i64 m.instrs.length)), (55, .v (.int .i64 i)), (75, .lst false (s.operands.map Opn.d)), (76, .v (.int .i64 s.operands.length)), (77, .v (.int .i64 j))], [(1, .box s.d), (0, .box m.d)], 2⟩) (fun b o => b && fewB 4 o.pieces.length) (fun _ _ => True) b0 hsl hN htr trivial ?_ ?_
          · intro j b o hj hjw ho _
            refine ⟨?_, trivial⟩
            cases b <;> simp -dsimp only [lp55x1, Mc.d, Ins.d, Opn.d, hj, hjw, ho, hFw, few, EVs, ↓EVd, ↓reduceIte, zA, zB, zC, zD, zE, zF, reduceBEq, reduceCtorEq, zG, zH, zI, zJ, zK, dcells, okc]
          · intro _
            rw [fold_all]
            exact hfin
        cases b
        · simp -dsimp only [lp55x2, Mc.d, Ins.d, hi, hw, hu, hFw, few, EVs, ↓EVd, ↓reduceIte, zA, zB, zC, zD, zE, zF, reduceBEq, reduceCtorEq, zG, zH, zI, zJ, zK, dcells, okc]
          generalize hJ : iter _ _ _ _ = J
          revert J
          refine inner false 0 _ _ _ ?_ ?_
          · simp -dsimp only [Mc.d, Ins.d, EVs, ↓EVd, ↓reduceIte, zA, zB, zC, zD, zE, zF, reduceBEq, reduceCtorEq, zG, zH, zI, zJ, zK, dcells, okc]
          · simp -dsimp only [lp55x1, Mc.d, Ins.d, hw, EVs, ↓EVd, ↓reduceIte, zA, zB, zC, zD, zE, zF, reduceBEq, reduceCtorEq, zG, zH, zI, zJ, zK, dcells, okc]
        · cases p1 : fewB 4 s.operands.length
          · simp -dsimp only [lp55x2, Mc.d, Ins.d, hi, hw, hu, hFw, few, p1, EVs, ↓EVd, ↓reduceIte, zA, zB, zC, zD, zE, zF, reduceBEq, reduceCtorEq, zG, zH, zI, zJ, zK, dcells, okc]
            generalize hJ : iter _ _ _ _ = J
            revert J
            refine inner false 0 _ _ _ ?_ ?_
            · simp -dsimp only [Mc.d, Ins.d, EVs, ↓EVd, ↓reduceIte, zA, zB, zC, zD, zE, zF, reduceBEq, reduceCtorEq, zG, zH, zI, zJ, zK, dcells, okc]
            · simp -dsimp only [lp55x1, Mc.d, Ins.d, hw, smI, p1, EVs, ↓EVd, ↓reduceIte, zA, zB, zC, zD, zE, zF, reduceBEq, reduceCtorEq, zG, zH, zI, zJ, zK, dcells, okc]
          · simp -dsimp only [lp55x2, Mc.d, Ins.d, hi, hw, hu, hFw, few, p1, EVs, ↓EVd, ↓reduceIte, zA, zB, zC, zD, zE, zF, reduceBEq, reduceCtorEq, zG, zH, zI, zJ, zK, dcells, okc]
            generalize hJ : iter _ _ _ _ = J
            revert J
            refine inner (fewB 4 s.effects.length) 0 _ _ _ ?_ ?_
            · simp -dsimp only [Mc.d, Ins.d, EVs, ↓EVd, ↓reduceIte, zA, zB, zC, zD, zE, zF, reduceBEq, reduceCtorEq, zG, zH, zI, zJ, zK, dcells, okc]
            · simp -dsimp only [lp55x1, Mc.d, Ins.d, hw, smI, p1, EVs, ↓EVd, ↓reduceIte, zA, zB, zC, zD, zE, zF, reduceBEq, reduceCtorEq, zG, zH, zI, zJ, zK, dcells, okc]
      · intro _
        rw [fold_all]
        simp -dsimp only [lp55x2, Mc.d, smallOK, q1, q2, EVs, ↓EVd, ↓reduceIte, zA, zB, zC, zD, zE, zF, reduceBEq, reduceCtorEq, zG, zH, zI, zJ, zK, dcells, okc]
  cases q3 : fewB 8 m.units.length
  case false =>
    simp -dsimp only [runE, run_eq, ir55, Mc.d, hFw, few, q1, q2, q3, EVs, ↓EVd, ↓reduceIte, zA, zB, zC, zD, zE, zF, reduceBEq, reduceCtorEq, zG, zH, zI, zJ, zK, dcells, okc]
    generalize hI : iter _ _ _ _ = I
    revert I
    refine iter_all m.banks (fun i (b : Bool) => ⟨[(1, .ptr 0 0), (3, .v (.bool b)), (37, .lst false (m.banks.map Bk.d)), (38, .v (.int .i64 m.banks.length)), (39, .v (.int .i64 i))], [(0, .box m.d)], 1⟩) (fun b k => b && fewB 64 k.regs.length) (fun _ _ => True) false hlb.1 hN ?_ trivial ?_ ?_
    · simp -dsimp only [Mc.d, EVs, ↓EVd, ↓reduceIte, zA, zB, zC, zD, zE, zF, reduceBEq, reduceCtorEq, zG, zH, zI, zJ, zK, dcells, okc]
    · intro i b k hi hw hu _
      refine ⟨?_, trivial⟩
      cases b <;> simp -dsimp only [lp55x0, Mc.d, Bk.d, hi, hw, hu, hFw, few, EVs, ↓EVd, ↓reduceIte, zA, zB, zC, zD, zE, zF, reduceBEq, reduceCtorEq, zG, zH, zI, zJ, zK, dcells, okc]
    · intro _
      rw [fold_all]
      simp -dsimp only [lp55x0, Mc.d, EVs, ↓EVd, ↓reduceIte, zA, zB, zC, zD, zE, zF, reduceBEq, reduceCtorEq, zG, zH, zI, zJ, zK, dcells, okc]
      generalize hJ : iter _ _ _ _ = J
      revert J
      refine iter_all m.instrs (fun i (b : Bool) => ⟨[(3, .v (.bool b)), (53, .lst false (m.instrs.map Ins.d)), (54, .v (.int .i64 m.instrs.length)), (55, .v (.int .i64 i))], [(0, .box m.d)], 1⟩) (fun b k => b && smI k) (fun _ _ => True) (false && m.banks.all fun k => fewB 64 k.regs.length) hlb.2 hN ?_ trivial ?_ ?_
      · simp -dsimp only [Mc.d, EVs, ↓EVd, ↓reduceIte, zA, zB, zC, zD, zE, zF, reduceBEq, reduceCtorEq, zG, zH, zI, zJ, zK, dcells, okc]
      · intro i b s hi hw hu _
        refine ⟨?_, trivial⟩
        have hsl : s.operands.length ≤ maxLen := hio s (List.mem_of_getElem? hu)
        have inner : ∀ (b0 : Bool) (nx : Nat) (K : Option (Ex × St) → Option St) (σ : St) (r : St), trim [3, 53, 54, 55, 75, 76, 77] 2 σ = some ⟨[(3, .v (.bool b0)), (53, .lst false (m.instrs.map Ins.d)), (54, .v (.int .i64 m.instrs.length)), (55, .v (.int .i64 i)), (75, .lst false (s.operands.map Opn.d)), (76, .v (.int .i64 s.operands.length)), (77, .v (.int .i64 ((0 : Nat) : Int)))], [(1, .box s.d), (0, .box m.d)], 2⟩ →
            outK K (ev C N lp55x1 ⟨[(3, .v (.bool (b0 && s.operands.all fun o => fewB 4 o.pieces.length))), (53, .lst false (m.instrs.map Ins.d)), (54, .v (.int .i64 m.instrs.length)), (55, .v (.int .i64 i)), (75, .lst false (s.operands.map Opn.d)), (76, .v (.int .i64 s.operands.length)), (77, .v (.int .i64 s.operands.length))], [(1, .box s.d), (0, .box m.d)], 2⟩) = some r →
            ∀ J, iter (ev C N lp55x1) (trim [3, 53, 54, 55, 75, 76, 77] 2) N σ = J → K J = some r := by
          intro b0 nx K σ r htr hfin
          refine iter_all s.operands (fun j (b : Bool) => ⟨[(3, .v (.bool b)), (53, .lst false (m.instrs.map Ins.d)), (54, .v (.int .i64 m.instrs.length)), (55, .v (.int .i64 i)), (75, .lst false (s.operands.map Opn.d)), (76, .v (.int .i64 s.operands.length)), (77, .v (.int .i64 j))], [(1, .box s.d), (0, .box m.d)], 2⟩) (fun b o => b && fewB 4 o.pieces.length) (fun _ _ => True) b0 hsl hN htr trivial ?_ ?_
          · intro j b o hj hjw ho _
            refine ⟨?_, trivial⟩
            cases b <;> simp -dsimp only [lp55x1, Mc.d, Ins.d, Opn.d, hj, hjw, ho, hFw, few, EVs, ↓EVd, ↓reduceIte, zA, zB, zC, zD, zE, zF, reduceBEq, reduceCtorEq, zG, zH, zI, zJ, zK, dcells, okc]
          · intro _
            rw [fold_all]
            exact hfin
        cases b
        · simp -dsimp only [lp55x2, Mc.d, Ins.d, hi, hw, hu, hFw, few, EVs, ↓EVd, ↓reduceIte, zA, zB, zC, zD, zE, zF, reduceBEq, reduceCtorEq, zG, zH, zI, zJ, zK, dcells, okc]
          generalize hJ : iter _ _ _ _ = J
          revert J
          refine inner false 0 _ _ _ ?_ ?_
          · simp -dsimp only [Mc.d, Ins.d, EVs, ↓EVd, ↓reduceIte, zA, zB, zC, zD, zE, zF, reduceBEq, reduceCtorEq, zG, zH, zI, zJ, zK, dcells, okc]
          · simp -dsimp only [lp55x1, Mc.d, Ins.d, hw, EVs, ↓EVd, ↓reduceIte, zA, zB, zC, zD, zE, zF, reduceBEq, reduceCtorEq, zG, zH, zI, zJ, zK, dcells, okc]
        · cases p1 : fewB 4 s.operands.length
          · simp -dsimp only [lp55x2, Mc.d, Ins.d, hi, hw, hu, hFw, few, p1, EVs, ↓EVd, ↓reduceIte, zA, zB, zC, zD, zE, zF, reduceBEq, reduceCtorEq, zG, zH, zI, zJ, zK, dcells, okc]
            generalize hJ : iter _ _ _ _ = J
            revert J
            refine inner false 0 _ _ _ ?_ ?_
            · simp -dsimp only [Mc.d, Ins.d, EVs, ↓EVd, ↓reduceIte, zA, zB, zC, zD, zE, zF, reduceBEq, reduceCtorEq, zG, zH, zI, zJ, zK, dcells, okc]
            · simp -dsimp only [lp55x1, Mc.d, Ins.d, hw, smI, p1, EVs, ↓EVd, ↓reduceIte, zA, zB, zC, zD, zE, zF, reduceBEq, reduceCtorEq, zG, zH, zI, zJ, zK, dcells, okc]
          · simp -dsimp only [lp55x2, Mc.d, Ins.d, hi, hw, hu, hFw, few, p1, EVs, ↓EVd, ↓reduceIte, zA, zB, zC, zD, zE, zF, reduceBEq, reduceCtorEq, zG, zH, zI, zJ, zK, dcells, okc]
            generalize hJ : iter _ _ _ _ = J
            revert J
            refine inner (fewB 4 s.effects.length) 0 _ _ _ ?_ ?_
            · simp -dsimp only [Mc.d, Ins.d, EVs, ↓EVd, ↓reduceIte, zA, zB, zC, zD, zE, zF, reduceBEq, reduceCtorEq, zG, zH, zI, zJ, zK, dcells, okc]
            · simp -dsimp only [lp55x1, Mc.d, Ins.d, hw, smI, p1, EVs, ↓EVd, ↓reduceIte, zA, zB, zC, zD, zE, zF, reduceBEq, reduceCtorEq, zG, zH, zI, zJ, zK, dcells, okc]
      · intro _
        rw [fold_all]
        simp -dsimp only [lp55x2, Mc.d, smallOK, q1, q2, q3, EVs, ↓EVd, ↓reduceIte, zA, zB, zC, zD, zE, zF, reduceBEq, reduceCtorEq, zG, zH, zI, zJ, zK, dcells, okc]
  cases q4 : fewB 64 m.instrs.length
  case false =>
    simp -dsimp only [runE, run_eq, ir55, Mc.d, hFw, few, q1, q2, q3, q4, EVs, ↓EVd, ↓reduceIte, zA, zB, zC, zD, zE, zF, reduceBEq, reduceCtorEq, zG, zH, zI, zJ, zK, dcells, okc]
    generalize hI : iter _ _ _ _ = I
    revert I
    refine iter_all m.banks (fun i (b : Bool) => ⟨[(1, .ptr 0 0), (3, .v (.bool b)), (37, .lst false (m.banks.map Bk.d)), (38, .v (.int .i64 m.banks.length)), (39, .v (.int .i64 i))], [(0, .box m.d)], 1⟩) (fun b k => b && fewB 64 k.regs.length) (fun _ _ => True) false hlb.1 hN ?_ trivial ?_ ?_
    · simp -dsimp only [Mc.d, EVs, ↓EVd, ↓reduceIte, zA, zB, zC, zD, zE, zF, reduceBEq, reduceCtorEq, zG, zH, zI, zJ, zK, dcells, okc]
    · intro i b k hi hw hu _
      refine ⟨?_, trivial⟩
      cases b <;> simp -dsimp only [lp55x0, Mc.d, Bk.d, hi, hw, hu, hFw, few, EVs, ↓EVd, ↓reduceIte, zA, zB, zC, zD, zE, zF, reduceBEq, reduceCtorEq, zG, zH, zI, zJ, zK, dcells, okc]
    · intro _
      rw [fold_all]
      simp -dsimp only [lp55x0, Mc.d, EVs, ↓EVd, ↓reduceIte, zA, zB, zC, zD, zE, zF, reduceBEq, reduceCtorEq, zG, zH, zI, zJ, zK, dcells, okc]
      generalize hJ : iter _ _ _ _ = J
      revert J
      refine iter_all m.instrs (fun i (b : Bool) => ⟨[(3, .v (.bool b)), (53, .lst false (m.instrs.map Ins.d)), (54, .v (.int .i64 m.instrs.length)), (55, .v (.int .i64 i))], [(0, .box m.d)], 1⟩) (fun b k => b && smI k) (fun _ _ => True) (false && m.banks.all fun k => fewB 64 k.regs.length) hlb.2 hN ?_ trivial ?_ ?_
      · simp -dsimp only [Mc.d, EVs, ↓EVd, ↓reduceIte, zA, zB, zC, zD, zE, zF, reduceBEq, reduceCtorEq, zG, zH, zI, zJ, zK, dcells, okc]
      · intro i b s hi hw hu _
        refine ⟨?_, trivial⟩
        have hsl : s.operands.length ≤ maxLen := hio s (List.mem_of_getElem? hu)
        have inner : ∀ (b0 : Bool) (nx : Nat) (K : Option (Ex × St) → Option St) (σ : St) (r : St), trim [3, 53, 54, 55, 75, 76, 77] 2 σ = some ⟨[(3, .v (.bool b0)), (53, .lst false (m.instrs.map Ins.d)), (54, .v (.int .i64 m.instrs.length)), (55, .v (.int .i64 i)), (75, .lst false (s.operands.map Opn.d)), (76, .v (.int .i64 s.operands.length)), (77, .v (.int .i64 ((0 : Nat) : Int)))], [(1, .box s.d), (0, .box m.d)], 2⟩ →
            outK K (ev C N lp55x1 ⟨[(3, .v (.bool (b0 && s.operands.all fun o => fewB 4 o.pieces.length))), (53, .lst false (m.instrs.map Ins.d)), (54, .v (.int .i64 m.instrs.length)), (55, .v (.int .i64 i)), (75, .lst false (s.operands.map Opn.d)), (76, .v (.int .i64 s.operands.length)), (77, .v (.int .i64 s.operands.length))], [(1, .box s.d), (0, .box m.d)], 2⟩) = some r →
            ∀ J, iter (ev C N lp55x1) (trim [3, 53, 54, 55, 75, 76, 77] 2) N σ = J → K J = some r := by
          intro b0 nx K σ r htr hfin
          refine iter_all s.operands (fun j (b : Bool) => ⟨[(3, .v (.bool b)), (53, .lst false (m.instrs.map Ins.d)), (54, .v (.int .i64 m.instrs.length)), (55, .v (.int .i64 i)), (75, .lst false (s.operands.map Opn.d)), (76, .v (.int .i64 s.operands.length)), (77, .v (.int .i64 j))], [(1, .box s.d), (0, .box m.d)], 2⟩) (fun b o => b && fewB 4 o.pieces.length) (fun _ _ => True) b0 hsl hN htr trivial ?_ ?_
          · intro j b o hj hjw ho _
            refine ⟨?_, trivial⟩
            cases b <;> simp -dsimp only [lp55x1, Mc.d, Ins.d, Opn.d, hj, hjw, ho, hFw, few, EVs, ↓EVd, ↓reduceIte, zA, zB, zC, zD, zE, zF, reduceBEq, reduceCtorEq, zG, zH, zI, zJ, zK, dcells, okc]
          · intro _
            rw [fold_all]
            exact hfin
        cases b
        · simp -dsimp only [lp55x2, Mc.d, Ins.d, hi, hw, hu, hFw, few, EVs, ↓EVd, ↓reduceIte, zA, zB, zC, zD, zE, zF, reduceBEq, reduceCtorEq, zG, zH, zI, zJ, zK, dcells, okc]
          generalize hJ : iter _ _ _ _ = J
          revert J
          refine inner false 0 _ _ _ ?_ ?_
          · simp -dsimp only [Mc.d, Ins.d, EVs, ↓EVd, ↓reduceIte, zA, zB, zC, zD, zE, zF, reduceBEq, reduceCtorEq, zG, zH, zI, zJ, zK, dcells, okc]
          · simp -dsimp only [lp55x1, Mc.d, Ins.d, hw, EVs, ↓EVd, ↓reduceIte, zA, zB, zC, zD, zE, zF, reduceBEq, reduceCtorEq, zG, zH, zI, zJ, zK, dcells, okc]
        · cases p1 : fewB 4 s.operands.length
          · simp -dsimp only [lp55x2, Mc.d, Ins.d, hi, hw, hu, hFw, few, p1, EVs, ↓EVd, ↓reduceIte, zA, zB, zC, zD, zE, zF, reduceBEq, reduceCtorEq, zG, zH, zI, zJ, zK, dcells, okc]
            generalize hJ : iter _ _ _ _ = J
            revert J
            refine inner false 0 _ _ _ ?_ ?_
            · simp -dsimp only [Mc.d, Ins.d, EVs, ↓EVd, ↓reduceIte, zA, zB, zC, zD, zE, zF, reduceBEq, reduceCtorEq, zG, zH, zI, zJ, zK, dcells, okc]
            · simp -dsimp only [lp55x1, Mc.d, Ins.d, hw, smI, p1, EVs, ↓EVd, ↓reduceIte, zA, zB, zC, zD, zE, zF, reduceBEq, reduceCtorEq, zG, zH, zI, zJ, zK, dcells, okc]
          · simp -dsimp only [lp55x2, Mc.d, Ins.d, hi, hw, hu, hFw, few, p1, EVs, ↓EVd, ↓reduceIte, zA, zB, zC, zD, zE, zF, reduceBEq, reduceCtorEq, zG, zH, zI, zJ, zK, dcells, okc]
            generalize hJ : iter _ _ _ _ = J
            revert J
            refine inner (fewB 4 s.effects.length) 0 _ _ _ ?_ ?_
            · simp -dsimp only [Mc.d, Ins.d, EVs, ↓EVd, ↓reduceIte, zA, zB, zC, zD, zE, zF, reduceBEq, reduceCtorEq, zG, zH, zI, zJ, zK, dcells, okc]
            · simp -dsimp only [lp55x1, Mc.d, Ins.d, hw, smI, p1, EVs, ↓EVd, ↓reduceIte, zA, zB, zC, zD, zE, zF, reduceBEq, reduceCtorEq, zG, zH, zI, zJ, zK, dcells, okc]
      · intro _
        rw [fold_all]
        simp -dsimp only [lp55x2, Mc.d, smallOK, q1, q2, q3, q4, EVs, ↓EVd, ↓reduceIte, zA, zB, zC, zD, zE, zF, reduceBEq, reduceCtorEq, zG, zH, zI, zJ, zK, dcells, okc]
  simp -dsimp only [runE, run_eq, ir55, Mc.d, hFw, few, q1, q2, q3, q4, EVs, ↓EVd, ↓reduceIte, zA, zB, zC, zD, zE, zF, reduceBEq, reduceCtorEq, zG, zH, zI, zJ, zK, dcells, okc]
  generalize hI : iter _ _ _ _ = I
  revert I
  refine iter_all m.banks (fun i (b : Bool) => ⟨[(1, .ptr 0 0), (3, .v (.bool b)), (37, .lst false (m.banks.map Bk.d)), (38, .v (.int .i64 m.banks.length)), (39, .v (.int .i64 i))], [(0, .box m.d)], 1⟩) (fun b k => b && fewB 64 k.regs.length) (fun _ _ => True) true hlb.1 hN ?_ trivial ?_ ?_
  · simp -dsimp only [Mc.d, EVs, ↓EVd, ↓reduceIte, zA, zB, zC, zD, zE, zF, reduceBEq, reduceCtorEq, zG, zH, zI, zJ, zK, dcells, okc]
  · intro i b k hi hw hu _
    refine ⟨?_, trivial⟩
    cases b <;> simp -dsimp only [lp55x0, Mc.d, Bk.d, hi, hw, hu, hFw, few, EVs, ↓EVd, ↓reduceIte, zA, zB, zC, zD, zE, zF, reduceBEq, reduceCtorEq, zG, zH, zI, zJ, zK, dcells, okc]
  · intro _
    rw [fold_all]
    simp -dsimp only [lp55x0, Mc.d, EVs, ↓EVd, ↓reduceIte, zA, zB, zC, zD, zE, zF, reduceBEq, reduceCtorEq, zG, zH, zI, zJ, zK, dcells, okc]
    generalize hJ : iter _ _ _ _ = J
    revert J
    refine iter_all m.instrs (fun i (b : Bool) => ⟨[(3, .v (.bool b)), (53, .lst false (m.instrs.map Ins.d)), (54, .v (.int .i64 m.instrs.length)), (55, .v (.int .i64 i))], [(0, .box m.d)], 1⟩) (fun b k => b && smI k) (fun _ _ => True) (true && m.banks.all fun k => fewB 64 k.regs.length) hlb.2 hN ?_ trivial ?_ ?_
    · simp -dsimp only [Mc.d, EVs, ↓EVd, ↓reduceIte, zA, zB, zC, zD, zE, zF, reduceBEq, reduceCtorEq, zG, zH, zI, zJ, zK, dcells, okc]
    · intro i b s hi hw hu _
      refine ⟨?_, trivial⟩
      have hsl : s.operands.length ≤ maxLen := hio s (List.mem_of_getElem? hu)
      have inner : ∀ (b0 : Bool) (nx : Nat) (K : Option (Ex × St) → Option St) (σ : St) (r : St), trim [3, 53, 54, 55, 75, 76, 77] 2 σ = some ⟨[(3, .v (.bool b0)), (53, .lst false (m.instrs.map Ins.d)), (54, .v (.int .i64 m.instrs.length)), (55, .v (.int .i64 i)), (75, .lst false (s.operands.map Opn.d)), (76, .v (.int .i64 s.operands.length)), (77, .v (.int .i64 ((0 : Nat) : Int)))], [(1, .box s.d), (0, .box m.d)], 2⟩ →
          outK K (ev C N lp55x1 ⟨[(3, .v (.bool (b0 && s.operands.all fun o => fewB 4 o.pieces.length))), (53, .lst false (m.instrs.map Ins.d)), (54, .v (.int .i64 m.instrs.length)), (55, .v (.int .i64 i)), (75, .lst false (s.operands.map Opn.d)), (76, .v (.int .i64 s.operands.length)), (77, .v (.int .i64 s.operands.length))], [(1, .box s.d), (0, .box m.d)], 2⟩) = some r →
          ∀ J, iter (ev C N lp55x1) (trim [3, 53, 54, 55, 75, 76, 77] 2) N σ = J → K J = some r := by
        intro b0 nx K σ r htr hfin
        refine iter_all s.operands (fun j (b : Bool) => ⟨[(3, .v (.bool b)), (53, .lst false (m.instrs.map Ins.d)), (54, .v (.int .i64 m.instrs.length)), (55, .v (.int .i64 i)), (75, .lst false (s.operands.map Opn.d)), (76, .v (.int .i64 s.operands.length)), (77, .v (.int .i64 j))], [(1, .box s.d), (0, .box m.d)], 2⟩) (fun b o => b && fewB 4 o.pieces.length) (fun _ _ => True) b0 hsl hN htr trivial ?_ ?_
        · intro j b o hj hjw ho _
          refine ⟨?_, trivial⟩
          cases b <;> simp -dsimp only [lp55x1, Mc.d, Ins.d, Opn.d, hj, hjw, ho, hFw, few, EVs, ↓EVd, ↓reduceIte, zA, zB, zC, zD, zE, zF, reduceBEq, reduceCtorEq, zG, zH, zI, zJ, zK, dcells, okc]
        · intro _
          rw [fold_all]
          exact hfin
      cases b
      · simp -dsimp only [lp55x2, Mc.d, Ins.d, hi, hw, hu, hFw, few, EVs, ↓EVd, ↓reduceIte, zA, zB, zC, zD, zE, zF, reduceBEq, reduceCtorEq, zG, zH, zI, zJ, zK, dcells, okc]
        generalize hJ : iter _ _ _ _ = J
        revert J
        refine inner false 0 _ _ _ ?_ ?_
        · simp -dsimp only [Mc.d, Ins.d, EVs, ↓EVd, ↓reduceIte, zA, zB, zC, zD, zE, zF, reduceBEq, reduceCtorEq, zG, zH, zI, zJ, zK, dcells, okc]
        · simp -dsimp only [lp55x1, Mc.d, Ins.d, hw, EVs, ↓EVd, ↓reduceIte, zA, zB, zC, zD, zE, zF, reduceBEq, reduceCtorEq, zG, zH, zI, zJ, zK, dcells, okc]
      · cases p1 : fewB 4 s.operands.length
        · simp -dsimp only [lp55x2, Mc.d, Ins.d, hi, hw, hu, hFw, few, p1, EVs, ↓EVd, ↓reduceIte, zA, zB, zC, zD, zE, zF, reduceBEq, reduceCtorEq, zG, zH, zI, zJ, zK, dcells, okc]
          generalize hJ : iter _ _ _ _ = J
          revert J
          refine inner false 0 _ _ _ ?_ ?_
          · simp -dsimp only [Mc.d, Ins.d, EVs, ↓EVd, ↓reduceIte, zA, zB, zC, zD, zE, zF, reduceBEq, reduceCtorEq, zG, zH, zI, zJ, zK, dcells, okc]
          · simp -dsimp only [lp55x1, Mc.d, Ins.d, hw, smI, p1, EVs, ↓EVd, ↓reduceIte, zA, zB, zC, zD, zE, zF, reduceBEq, reduceCtorEq, zG, zH, zI, zJ, zK, dcells, okc]
        · simp -dsimp only [lp55x2, Mc.d, Ins.d, hi, hw, hu, hFw, few, p1, EVs, ↓EVd, ↓reduceIte, zA, zB, zC, zD, zE, zF, reduceBEq, reduceCtorEq, zG, zH, zI, zJ, zK, dcells, okc]
          generalize hJ : iter _ _ _ _ = J
          revert J
          refine inner (fewB 4 s.effects.length) 0 _ _ _ ?_ ?_
          · simp -dsimp only [Mc.d, Ins.d, EVs, ↓EVd, ↓reduceIte, zA, zB, zC, zD, zE, zF, reduceBEq, reduceCtorEq, zG, zH, zI, zJ, zK, dcells, okc]
          · simp -dsimp only [lp55x1, Mc.d, Ins.d, hw, smI, p1, EVs, ↓EVd, ↓reduceIte, zA, zB, zC, zD, zE, zF, reduceBEq, reduceCtorEq, zG, zH, zI, zJ, zK, dcells, okc]
    · intro _
      rw [fold_all]
      simp -dsimp only [lp55x2, Mc.d, smallOK, q1, q2, q3, q4, EVs, ↓EVd, ↓reduceIte, zA, zB, zC, zD, zE, zF, reduceBEq, reduceCtorEq, zG, zH, zI, zJ, zK, dcells, okc]
end Go.Proofs.Dv
set_option linter.unusedVariables false
set_option linter.unusedSimpArgs false
set_option maxRecDepth 100000
namespace Go.Proofs.Dv
open Go.RowKit
open Nat renaming reduceEqDiff → zA, reduceAdd → zB, reduceSub → zC, reduceLeDiff → zD, reduceLT → zE, reduceMul → zF
open Int renaming reduceToNat → zG, reduceLE → zH, reduceLT → zI
open List renaming set_cons_zero → zJ, set_cons_succ → zK
def RegsC (C : Ctx) : Prop := C.T 59 = none ∧ ∀ (m : Mc), m.regs.length ≤ 1000 → ∀ ok, C.cal 59 [.ptr 1 0] [(1, .box (cD m ok)), (0, .box m.d)] 2 = some (.tup [], [(1, .box (cD m (ok && regsOK m))), (0, .box m.d)], 2)
def BanksC (C : Ctx) : Prop := C.T 60 = none ∧ ∀ (m : Mc), m.banks.length ≤ 1000 → m.regs.length ≤ 1000 → (∀ b ∈ m.banks, b.regs.length ≤ 1000) → ∀ ok, C.cal 60 [.ptr 1 0] [(1, .box (cD m ok)), (0, .box m.d)] 2 = some (.tup [], [(1, .box (cD m (ok && banksOK m))), (0, .box m.d)], 2)
def UnitsC (C : Ctx) : Prop := C.T 61 = none ∧ ∀ (m : Mc), m.units.length ≤ 1000 → ∀ ok, C.cal 61 [.ptr 1 0] [(1, .box (cD m ok)), (0, .box m.d)] 2 = some (.tup [], [(1, .box (cD m (ok && unitsOK m))), (0, .box m.d)], 2)
def InstrC (C : Ctx) : Prop := C.T 63 = none ∧ ∀ {m : Mc} {H : Bool → List (Nat × Blk)}, Ckr 1 5 m H → ∀ (i : Ins), InsZ i → m.regs.length ≤ 1000 → m.banks.length ≤ 1000 → ∀ (ok : Bool), (ok = true → inB m.word 1 4 = true) → (ok = true → ∀ r ∈ m.regs, r.name.size ≤ 1000) → (ok = true → ∀ b ∈ m.banks, ∃ r g, b.regs[0]? = some r ∧ atI m.regs r = some g) →
    C.cal 63 [.ptr 1 0, .agg i.d] (H ok) 5 = some (.tup [], H (insOK m i ok), 5)
theorem insOK_false (m : Mc) (i : Ins) : insOK m i false = false := by
  cases h : insOK m i false with
  | false => rfl
  | true =>
    simp only [insOK, Bool.and_eq_true] at h
    have := (opsF_ok _ _ h.1).1
    simp at this
def headOK (m : Mc) : Bool := (nameOK m.name && (inB m.word 1 4 && (decide (m.address = 16) || decide (m.address = 32)))) && regsOK m && banksOK m && unitsOK m
def insF (m : Mc) (a : Bool × List ByteArray) (i : Ins) : Bool × List ByteArray := (insOK m i (a.1 && freshB a.2 i.name), a.2 ++ [i.name])
def machOK (m : Mc) : Bool := (m.instrs.foldl (insF m) (headOK m, [])).1
def chkM (m : Mc) : Int := bif !smallOK m then 4 else bif machOK m then 0 else 8
theorem name_size {s : ByteArray} (h : nameOK s = true) : s.size ≤ 24 := by
  simp only [nameOK, Bool.and_eq_true, decide_eq_true_eq] at h
  exact h.1.2
theorem regsF_ok (m : Mc) : ∀ (l : List Rg) (a : Bool × List ByteArray), (l.foldl (regF m) a).1 = true → a.1 = true ∧ ∀ r ∈ l, nameOK r.name = true
  | [], a, h => ⟨h, fun r hr => by simp at hr⟩
  | r :: l, a, h => by
    obtain ⟨h1, h2⟩ := regsF_ok m l _ h
    simp only [regF, freshB, Bool.and_eq_true] at h1
    refine ⟨h1.1, fun q hq => ?_⟩
    rcases List.mem_cons.1 hq with rfl | hq
    · exact h1.2.1.1.1
    · exact h2 q hq
theorem regs_names {m : Mc} (h : regsOK m = true) : ∀ r ∈ m.regs, r.name.size ≤ 1000 := by
  simp only [regsOK, Bool.and_eq_true] at h
  intro r hr
  have := name_size ((regsF_ok m _ _ h.2).2 r hr)
  omega
theorem bankRF_ok (m : Mc) (b : Bk) : ∀ (l : List Int) (a : Nat × Bool), (l.foldl (bankRF m b) a).2 = true → a.2 = true ∧ ∀ r ∈ l, inB r 0 (IntKind.i64.wrap ((m.regs.length : Int) - 1)) = true
  | [], a, h => ⟨h, fun r hr => by simp at hr⟩
  | r :: l, a, h => by
    obtain ⟨h1, h2⟩ := bankRF_ok m b l _ h
    simp only [bankRF, Bool.and_eq_true] at h1
    refine ⟨h1.1.1, fun q hq => ?_⟩
    rcases List.mem_cons.1 hq with rfl | hq
    · exact h1.1.2.1
    · exact h2 q hq
theorem bankF_ok (m : Mc) : ∀ (l : List Bk) (a : Bool × List ByteArray), (l.foldl (bankF m) a).1 = true → a.1 = true ∧ ∀ b ∈ l, 0 < b.regs.length ∧ ∀ r ∈ b.regs, inB r 0 (IntKind.i64.wrap ((m.regs.length : Int) - 1)) = true
  | [], a, h => ⟨h, fun r hr => by simp at hr⟩
  | b :: l, a, h => by
    obtain ⟨h1, h2⟩ := bankF_ok m l _ h
    simp only [bankF] at h1
    obtain ⟨h3, h4⟩ := bankRF_ok m b _ _ h1
    simp only [Bool.and_eq_true, decide_eq_true_eq] at h3
    refine ⟨h3.1, fun q hq => ?_⟩
    rcases List.mem_cons.1 hq with rfl | hq
    · exact ⟨by omega, h4⟩
    · exact h2 q hq
theorem banks_regs {m : Mc} (hl : m.regs.length ≤ 1000000) (h : banksOK m = true) : ∀ b ∈ m.banks, ∃ r g, b.regs[0]? = some r ∧ atI m.regs r = some g := by
  intro b hb
  obtain ⟨h1, h2⟩ := (bankF_ok m _ _ h).2 b hb
  have e : b.regs[0]? = some (b.regs[0]'h1) := List.getElem?_eq_getElem h1
  obtain ⟨q1, g, q2⟩ := inB_get hl (h2 _ (List.mem_of_getElem? e))
  exact ⟨_, g, e, by unfold atI; rw [if_pos (by simpa using q1), q2]⟩
theorem insF_false (m : Mc) : ∀ (l : List Ins) (ns : List ByteArray), (l.foldl (insF m) (false, ns)).1 = false
  | [], ns => rfl
  | i :: l, ns => by
    rw [List.foldl_cons]
    simp only [insF, Bool.false_and, insOK_false]
    exact insF_false m l _
theorem insF_out (m : Mc) : ∀ (l : List Ins) (a : Bool × List ByteArray) {u : Unit}, scan (tst (fun (a : Bool × List ByteArray) (_ : Ins) => a.1) (insF m) fun _ _ => ()) a l = .out u → (l.foldl (insF m) a).1 = false
  | [], a, u, h => by simp [scan] at h
  | i :: l, ⟨ok, ns⟩, u, h => by
    cases ok with
    | false => exact insF_false m _ _
    | true =>
      simp only [scan, tst, if_true] at h
      rw [List.foldl_cons]
      exact insF_out m l _ h
theorem scan_go {α β X : Type} {t : α → X → Bool} {u : α → X → α} {v : α → X → β} : ∀ (l : List X) (a0 a : α), scan (tst t u v) a0 l = .go a → l.foldl u a0 = a
  | [], a0, a, h => by simpa [scan] using h
  | x :: l, a0, a, h => by
    simp only [scan, tst] at h
    cases ht : t a0 x with
    | false => rw [ht] at h; simp at h
    | true => rw [ht] at h; rw [List.foldl_cons]; exact scan_go l _ a (by simpa using h)
theorem HR_nm4 (m : Mc) (ok : Bool) (i : Ins) : Nmr 2 3 5 (fun ns => (4, .box i.d) :: HR m ok ns) := by
  constructor <;> intros <;> simp -dsimp only [HR, cD, Mc.d, Ins.d, List.map_append, List.length_append, EVs, ↓EVd, ↓reduceIte, zA, zB, zC, zD, zE, zF, reduceBEq, reduceCtorEq, zG, zH, zI, zJ, zK, dcells, okc]
def x_ChkM (a : Mc) : List D := match a with | m => [.agg m.d]
theorem i_ChkM : ∀ a b, x_ChkM a = x_ChkM b → a = b := by
  rintro m m' h
  first | simpa [x_ChkM, INJ, and_assoc, Int.ofNat_inj] using h | (simp [x_ChkM, INJ, and_assoc, Int.ofNat_inj] at h; simp_all)
open Classical in
noncomputable def s_ChkM : List D → Option D := sOf x_ChkM fun a => match a with | m => if (∀ i ∈ m.instrs, ∀ e ∈ i.effects, TOK e.addr ∧ TOK e.value ∧ TOK e.cond) then some (.v (.int .i64 (chkM m))) else none
theorem e_ChkM {m : Mc} (hc : (∀ i ∈ m.instrs, ∀ e ∈ i.effects, TOK e.addr ∧ TOK e.value ∧ TOK e.cond)) : s_ChkM [.agg m.d] = some (.v (.int .i64 (chkM m))) := (sOf_eq i_ChkM m).trans (if_pos hc)
theorem R_ChkM {C : Ctx} {F : IFun} (hspec : ∀ N, maxLen + 10 < N → ∀ (m : Mc), lenOK.lenOKs [.agg m.d] → (∀ i ∈ m.instrs, ∀ e ∈ i.effects, TOK e.addr ∧ TOK e.value ∧ TOK e.cond) → runE C N F [.agg m.d] = some (.v (.int .i64 (chkM m)))) : Runs C F (s_ChkM) := runs_of i_ChkM fun N hN m r hl hf => by
  simp only [Option.ite_none_right_eq_some, Option.some.injEq] at hf
  obtain ⟨hc, rfl⟩ := hf
  exact hspec N hN m hl hc
set_option maxHeartbeats 2000000 in
theorem r_ChkM (C : Ctx) (hS : C.T 55 = some s_SmallM) (hM : MustC C) (hF : FreshC C) (hR : RegsC C) (hB : BanksC C) (hU : UnitsC C) (hI' : InstrC C) (hW : C.T 58 = some s_in) (hNm : C.T 57 = some s_Name) : Runs C ir14 s_ChkM := R_ChkM fun N hN m hl hc => by
  have hml := maxLen_ge
  have eS := @e_SmallM m
  simp only [Mc.d] at eS
  cases hsm : smallOK m
  · simp -dsimp only [runE, run_eq, ir14, Mc.d, hS, eS, hsm, chkM, EVs, ↓EVd, ↓reduceIte, zA, zB, zC, zD, zE, zF, reduceBEq, reduceCtorEq, zG, zH, zI, zJ, zK, dcells, okc]
  have hsz := hsm
  simp only [smallOK, Bool.and_eq_true, List.all_eq_true] at hsz
  obtain ⟨⟨⟨⟨z1, z2⟩, z3⟩, z4⟩, z5, z6⟩ := hsz
  have z1 := fewB_le z1
  have z2 := fewB_le z2
  have z3 := fewB_le z3
  have z4 := fewB_le z4
  have zb : ∀ b ∈ m.banks, b.regs.length ≤ 1000 := fun b hb => by have := fewB_le (z5 b hb); omega
  have zi : ∀ i ∈ m.instrs, InsZ i := by
    intro i hi
    have := z6 i hi
    simp only [smI, Bool.and_eq_true, List.all_eq_true] at this
    obtain ⟨⟨a1, a2⟩, a3⟩ := this
    have a1 := fewB_le a1
    have a2 := fewB_le a2
    exact ⟨by omega, by omega, fun o ho => by have := fewB_le (a3 o ho); omega, hc i hi⟩
  have k2 : Ckr 1 2 m (fun ok => [(1, .box (cD m ok)), (0, .box m.d)]) := by
    constructor <;> intros <;> simp -dsimp only [cD, Mc.d, EVs, ↓EVd, ↓reduceIte, zA, zB, zC, zD, zE, zF, reduceBEq, reduceCtorEq, zG, zH, zI, zJ, zK, dcells, okc]
  have m3 := fun ok => (mustE hM k2).2.2.1 ok
  have c1 := fun ok => hR.2 m (by omega) ok
  have c2 := fun ok => hB.2 m (by omega) (by omega) zb ok
  have c3 := fun ok => hU.2 m (by omega) ok
  have e1 := @e_in m.word 1 4
  have e2 := @e_Name m.name
  simp only [cD, Mc.d] at m3 c1 c2 c3
  cases ha : decide (m.address = 16) <;>
  (simp -dsimp only [runE, run_eq, ir14, Mc.d, hS, eS, hsm, layd, hM.1, m3, hR.1, c1, hB.1, c2, hU.1, c3, hW, e1, hNm, e2, ha, EVs, ↓EVd, ↓reduceIte, zA, zB, zC, zD, zE, zF, reduceBEq, reduceCtorEq, zG, zH, zI, zJ, zK, dcells, okc]
   generalize hI : iter _ _ _ _ = I
   revert I
   refine iter_test2 m.instrs (fun j (a : Bool × List ByteArray) => ⟨[(3, .ptr 1 0), (4, .ptr 2 0), (37, .lst false (m.instrs.map Ins.d)), (38, .v (.int .i64 m.instrs.length)), (39, .v (.int .i64 j))], HR m a.1 a.2, 4⟩) (fun a _ => a.1) (insF m) (fun _ _ => ()) (fun j a => a.2.length = j ∧ (a.1 = true → headOK m = true)) (headOK m, []) (by omega) hN ?_ ⟨rfl, fun h => h⟩ ?_ ?_ ?_
   · simp -dsimp only [HR, cD, Mc.d, headOK, ha, EVs, ↓EVd, ↓reduceIte, zA, zB, zC, zD, zE, zF, reduceBEq, reduceCtorEq, zG, zH, zI, zJ, zK, dcells, okc]
   · rintro j ⟨okj, ns⟩ i hj hjw hi ⟨hlen, hhd⟩ htt
     simp only at htt hlen hhd
     subst htt
     have hil : j < m.instrs.length := (List.getElem?_eq_some_iff.1 hi).1
     have hhead := hhd rfl
     simp only [headOK, Bool.and_eq_true] at hhead
     obtain ⟨⟨⟨⟨b1, b2, b3⟩, b4⟩, b5⟩, b6⟩ := hhead
     have h2 := hF.2 (HR_nm4 m true i) ns (by omega) i.name
     have k5 := (HR_ck m (ns ++ [i.name]) 4 (.inl rfl)).cons (k := 4) (b := i.d) (Nat.le_refl _) rfl
     have m1 := fun ok => (mustE hM k5).1 ok
     have h3 := hI'.2 k5 i (zi i (List.mem_of_getElem? hi)) (by omega) (by omega) (freshB ns i.name) (fun _ => b2) (fun _ => regs_names b4) (fun _ => banks_regs (by omega) b5)
     simp only [HR, cD, Mc.d, Ins.d] at h2 m1 h3
     refine ⟨?_, by simp [insF, hlen], fun _ => by simp only [headOK, b1, b2, b4, b5, b6]; simpa using b3⟩
     simp -dsimp only [lp14x0, HR, cD, Mc.d, Ins.d, hj, hjw, hi, hF.1, h2, hM.1, m1, hI'.1, h3, insF, EVs, ↓EVd, ↓reduceIte, zA, zB, zC, zD, zE, zF, reduceBEq, reduceCtorEq, zG, zH, zI, zJ, zK, dcells, okc]
   · rintro j ⟨okj, ns⟩ i hj hi ⟨hlen, hhd⟩ htt hs
     simp only at htt
     subst htt
     have hmo : machOK m = false := insF_out m _ _ hs
     simp -dsimp only [lp14x0, HR, cD, Mc.d, Ins.d, hj, hi, chkM, hsm, hmo, EVs, ↓EVd, ↓reduceIte, zA, zB, zC, zD, zE, zF, reduceBEq, reduceCtorEq, zG, zH, zI, zJ, zK, dcells, okc]
   · rintro ⟨okj, ns⟩ _ hs
     have hmo : machOK m = okj := by rw [machOK, scan_go _ _ _ hs]
     cases okj <;> simp -dsimp only [lp14x0, HR, cD, Mc.d, chkM, hsm, hmo, EVs, ↓EVd, ↓reduceIte, zA, zB, zC, zD, zE, zF, reduceBEq, reduceCtorEq, zG, zH, zI, zJ, zK, dcells, okc])
end Go.Proofs.Dv
set_option linter.unusedVariables false
set_option linter.unusedSimpArgs false
set_option maxRecDepth 100000
namespace Go.Proofs.Dv
open Go.RowKit
open Nat renaming reduceEqDiff → zA, reduceAdd → zB, reduceSub → zC, reduceLeDiff → zD, reduceLT → zE, reduceMul → zF
open Int renaming reduceToNat → zG, reduceLE → zH, reduceLT → zI
open List renaming set_cons_zero → zJ, set_cons_succ → zK
def rtV (t : Nat) : Option (Ex × St) → Option D
  | some (.rt, σ) => some (lkf σ.fr t)
  | _ => none
theorem rtV_rt {t : Nat} {σ : St} : rtV t (some (.rt, σ)) = some (lkf σ.fr t) := nr rfl
theorem rtV_gb {t : Nat} {c : Bool} {A B : Unit → Option (Ex × St)} {_ : Dm A} {_ : Dm B} : rtV t (gb c A B) = gb c (fun _ => rtV t (A ())) (fun _ => rtV t (B ())) := by cases c <;> rfl
theorem rtV_some {t : Nat} {r : Option (Ex × St)} {d : D} (h : rtV t r = some d) : ∃ σ, r = some (.rt, σ) ∧ lkf σ.fr t = d := by
  rcases r with _ | ⟨e, σ⟩
  · simp [rtV] at h
  · cases e <;> simp [rtV] at h
    exact ⟨σ, rfl, h⟩
def EVq := And.intro @rtV_rt @rtV_gb
def allI {X : Type} (p : Nat → X → Bool) : Nat → List X → Bool
  | _, [] => true
  | i, x :: xs => p i x && allI p (i + 1) xs
theorem allI_all {X : Type} {p : X → Bool} : ∀ (l : List X) (i : Nat), allI (fun _ x => p x) i l = l.all p
  | [], i => rfl
  | x :: xs, i => by rw [allI, List.all_cons, allI_all xs]
theorem rloop {X : Type} {f : St → Option (Ex × St)} {tr : St → Option St} {N : Nat} {σ σe : St} {ret e : Nat} {d : D} (els : List X) (H : Nat → St) (p : Nat → X → Bool)
    (hl : els.length ≤ maxLen) (hN : maxLen + 10 < N) (h0 : tr σ = some (H 0))
    (hgo : ∀ (j : Nat) x, decide ((j : Int) < (els.length : Int)) = true → IntKind.i64.wrap ((j : Int) + 1) = ((j + 1 : Nat) : Int) → els[j]? = some x → p j x = true → stepE tr (f (H j)) = some (H (j + 1)))
    (hst : ∀ (j : Nat) x, decide ((j : Int) < (els.length : Int)) = true → els[j]? = some x → p j x = false → rtV ret (f (H j)) = some d)
    (hend : f (H els.length) = some (.ex e, σe)) :
    (allI p 0 els = true → iter f tr N σ = some (.ex e, σe)) ∧ (allI p 0 els = false → ∃ σ', iter f tr N σ = some (.rt, σ') ∧ lkf σ'.fr ret = d) := by
  have key : ∀ (xs pre : List X) (N : Nat) (σ : St), els = pre ++ xs → xs.length < N → tr σ = some (H pre.length) →
      (allI p pre.length xs = true → iter f tr N σ = some (.ex e, σe)) ∧ (allI p pre.length xs = false → ∃ σ', iter f tr N σ = some (.rt, σ') ∧ lkf σ'.fr ret = d) := by
    intro xs
    induction xs with
    | nil =>
      intro pre N σ he hN h0
      obtain ⟨N, rfl⟩ : ∃ k, N = k + 1 := ⟨N - 1, by simp at hN; omega⟩
      have hl : els.length = pre.length := by rw [he]; simp
      rw [← hl] at h0
      refine ⟨fun _ => ?_, fun h => by simp [allI] at h⟩
      simp only [iter, h0, Option.bind_some, hend]
    | cons x xs ih =>
      intro pre N σ he hN h0
      obtain ⟨N, rfl⟩ : ∃ k, N = k + 1 := ⟨N - 1, by simp at hN; omega⟩
      have hx : els[pre.length]? = some x := by rw [he]; simp
      have hlt' : pre.length < els.length := by rw [he]; simp
      have hlt : decide ((pre.length : Int) < (els.length : Int)) = true := by simp; exact hlt'
      have hw := wrap_succ hlt' hl
      cases hp : p pre.length x with
      | true =>
        have h1 := hgo _ x hlt hw hx hp
        cases hf : f (H pre.length) with
        | none => rw [hf] at h1; simp [stepE] at h1
        | some r =>
          obtain ⟨ex, σ'⟩ := r
          rw [hf] at h1
          cases ex with
          | nm =>
            have := ih (pre ++ [x]) N σ' (by rw [he]; simp) (by simp at hN; omega) (by simpa [stepE] using h1)
            have e1 : iter f tr (N + 1) σ = iter f tr N σ' := by simp only [iter, h0, Option.bind_some, hf]
            rw [e1]
            simpa [allI, hp] using this
          | ex i => simp [stepE] at h1
          | rt => simp [stepE] at h1
      | false =>
        obtain ⟨σ', h1, h2⟩ := rtV_some (hst _ x hlt hx hp)
        refine ⟨fun h => by simp [allI, hp] at h, fun _ => ⟨σ', ?_, h2⟩⟩
        simp only [iter, h0, Option.bind_some, h1]
  exact key els [] N σ rfl (by omega) h0
theorem rloopJ {X : Type} {f : St → Option (Ex × St)} {tr : St → Option St} {N : Nat} {σ σe : St} {ret e : Nat} {d : D} {J : Option (Ex × St)} (hJ : iter f tr N σ = J) (els : List X) (H : Nat → St) (p : Nat → X → Bool)
    (hl : els.length ≤ maxLen) (hN : maxLen + 10 < N) (h0 : tr σ = some (H 0))
    (hgo : ∀ (j : Nat) x, decide ((j : Int) < (els.length : Int)) = true → IntKind.i64.wrap ((j : Int) + 1) = ((j + 1 : Nat) : Int) → els[j]? = some x → p j x = true → stepE tr (f (H j)) = some (H (j + 1)))
    (hst : ∀ (j : Nat) x, decide ((j : Int) < (els.length : Int)) = true → els[j]? = some x → p j x = false → rtV ret (f (H j)) = some d)
    (hend : f (H els.length) = some (.ex e, σe)) :
    (allI p 0 els = true → J = some (.ex e, σe)) ∧ (allI p 0 els = false → ∃ σ', J = some (.rt, σ') ∧ lkf σ'.fr ret = d) := by
  subst hJ
  exact rloop els H p hl hN h0 hgo hst hend
def rgAt (m : Mc) (i : Nat) (r : Rg) : Bool := (nameOK r.name && inB r.width 1 64) && ((m.regs.take i).all (fun q => !decide (q.name = r.name)) && regRest m r)
def regsR (m : Mc) : Bool := allI (rgAt m) 0 m.regs && decide (0 < (m.regs.length : Int))
end Go.Proofs.Dv
set_option linter.unusedVariables false
set_option linter.unusedSimpArgs false
set_option maxRecDepth 100000
namespace Go.Proofs.Dv
open Go.RowKit
open Nat renaming reduceEqDiff → zA, reduceAdd → zB, reduceSub → zC, reduceLeDiff → zD, reduceLT → zE, reduceMul → zF
open Int renaming reduceToNat → zG, reduceLE → zH, reduceLT → zI
open List renaming set_cons_zero → zJ, set_cons_succ → zK
def unAt (m : Mc) (i : Nat) (u : Un) : Bool := (nameOK u.name && inB u.count 1 4) && (m.units.take i).all (fun q => !decide (q.name = u.name))
def unitsR (m : Mc) : Bool := allI (unAt m) 0 m.units && decide (0 < (m.units.length : Int))
def W8p (w : Int) : Int := IntKind.i64.wrap (8 * w)
def pcR (w : Int) (p : Pc) : Bool := inB p.len 1 (W8p w) && inB p.at_ 0 (IntKind.i64.wrap (W8p w - p.len))
end Go.Proofs.Dv
set_option linter.unusedVariables false
set_option linter.unusedSimpArgs false
set_option maxRecDepth 100000
namespace Go.Proofs.Dv
open Go.RowKit
open Nat renaming reduceEqDiff → zA, reduceAdd → zB, reduceSub → zC, reduceLeDiff → zD, reduceLT → zE, reduceMul → zF
open Int renaming reduceToNat → zG, reduceLE → zH, reduceLT → zI
open List renaming set_cons_zero → zJ, set_cons_succ → zK
def vrR (m : Mc) (i : Ins) (n : ByteArray) (w : Int) : Bool :=
  bif decide (n = strK [112, 99]) then decide (w = m.address) else
  match i.operands.find? (fun o => decide (o.name = n)) with
  | some o => decide (w = (wideO m o).getD 0)
  | none => match m.regs.find? (fun r => decide (strK [114, 46] ++ r.name = n)) with
    | some r => decide (w = r.width)
    | none => false
def leafR (m : Mc) (i : Ins) (u : T) : Bool := if u.kind = 2 then vrR m i u.name u.width else if u.kind = 24 then decide (subW u 0 = m.address) else true
def knownR (m : Mc) (i : Ins) (t : T) : Bool := t.pre.all (leafR m i)
end Go.Proofs.Dv
set_option linter.unusedVariables false
set_option linter.unusedSimpArgs false
set_option maxRecDepth 100000
namespace Go.Proofs.Dv
open Go.RowKit
open Nat renaming reduceEqDiff → zA, reduceAdd → zB, reduceSub → zC, reduceLeDiff → zD, reduceLT → zE, reduceMul → zF
open Int renaming reduceToNat → zG, reduceLE → zH, reduceLT → zI
open List renaming set_cons_zero → zJ, set_cons_succ → zK
theorem all_congr' {α : Type} {p q : α → Bool} : ∀ {l : List α}, (∀ x ∈ l, p x = q x) → l.all p = l.all q
  | [], _ => rfl
  | x :: l, h => by rw [List.all_cons, List.all_cons, h x List.mem_cons_self, all_congr' fun y hy => h y (List.mem_cons_of_mem _ hy)]
theorem formed_pre : ∀ t : T, t.formed = t.pre.all formedN := by
  intro t
  induction t using T.ind with
  | h t ih =>
    rw [T.formed_eq, T.pre_eq, List.all_cons, pres_all, Bool.and_comm, all_congr' ih]
def fitR (m : Mc) (i : Ins) (t : T) : Bool := decide (chk02 t = 0) && knownR m i t
end Go.Proofs.Dv
set_option linter.unusedVariables false
set_option linter.unusedSimpArgs false
set_option maxRecDepth 100000
namespace Go.Proofs.Dv
open Go.RowKit
open Nat renaming reduceEqDiff → zA, reduceAdd → zB, reduceSub → zC, reduceLeDiff → zD, reduceLT → zE, reduceMul → zF
open Int renaming reduceToNat → zG, reduceLE → zH, reduceLT → zI
open List renaming set_cons_zero → zJ, set_cons_succ → zK
def opKind (m : Mc) (i : Ins) (k : Nat) (o : Opn) : Bool :=
  let f := fieldOf o.pieces
  if o.kind = 1 then
    (inB o.bank 0 (IntKind.i64.wrap ((m.banks.length : Int) - 1)) && decide (o.scale = 0)) &&
    (if o.tied = -1 then decide (0 < f) && (decide (6 < f) || match m.banks[o.bank.toNat]? with | some b => decide ((b.regs.length : Int) ≤ p2 f.toNat) | none => false) else
     (inB o.tied 0 (IntKind.i64.wrap ((k : Int) - 1)) && !decide (0 < (o.pieces.length : Int))) && (match i.operands[o.tied.toNat]? with | some q => (decide (q.kind = 1) && decide (q.bank = o.bank)) && decide (q.tied = -1) | none => false))
  else if o.kind = 2 ∨ o.kind = 3 ∨ o.kind = 4 then (((decide (o.bank = 0) && decide (o.tied = -1)) && inB o.scale 0 3) && decide (0 < f)) && decide (IntKind.i64.wrap (f + o.scale) ≤ m.address)
  else false
def opHead (m : Mc) (o : Opn) : Bool := (nameOK o.name && !decide (o.name = strK [112, 99])) && o.pieces.all (pcR m.word)
def opR (m : Mc) (i : Ins) (k : Nat) (o : Opn) : Bool := opHead m o && ((i.operands.take k).all (fun q => !decide (q.name = o.name)) && opKind m i k o)
def opRk (m : Mc) (i : Ins) (k : Nat) : Bool := match i.operands[k]? with | some o => opR m i k o | none => false
end Go.Proofs.Dv
set_option linter.unusedVariables false
set_option linter.unusedSimpArgs false
set_option maxRecDepth 100000
namespace Go.Proofs.Dv
open Go.RowKit
open Nat renaming reduceEqDiff → zA, reduceAdd → zB, reduceSub → zC, reduceLeDiff → zD, reduceLT → zE, reduceMul → zF
open Int renaming reduceToNat → zG, reduceLE → zH, reduceLT → zI
open List renaming set_cons_zero → zJ, set_cons_succ → zK
def TZ (t : T) : Prop := t.depth ≤ 1000 ∧ t.size ≤ 1000000 ∧ t.wf
def effR1 (m : Mc) (i : Ins) (e : Ef) : Bool := (zeroT e.addr && (zeroT e.cond && fitR m i e.value)) &&
  (if e.operand = -1 then inB e.reg 0 (IntKind.i64.wrap ((m.regs.length : Int) - 1)) && decide (e.value.width = regW m e.reg) else
   decide (e.reg = 0) && (inB e.operand 0 (IntKind.i64.wrap ((i.operands.length : Int) - 1)) && (match i.operands[e.operand.toNat]? with | some o => decide (o.kind = 1) && decide (e.value.width = (wideO m o).getD 0) | none => false)))
def effR2 (m : Mc) (i : Ins) (e : Ef) : Bool := decide (e.operand = 0) && (decide (e.reg = 0) && (zeroT e.cond && (fitR m i e.addr && (decide (e.addr.width = m.address) && (fitR m i e.value && (decide (e.value.width = 8) || (decide (e.value.width = 16) || (decide (e.value.width = 32) || decide (e.value.width = 64)))))))))
def effR3 (m : Mc) (i : Ins) (e : Ef) : Bool := decide (e.operand = 0) && (decide (e.reg = 0) && (zeroT e.addr && (fitR m i e.value && (decide (e.value.width = m.address) && (zeroT e.cond || (fitR m i e.cond && decide (e.cond.width = 1)))))))
def effR4 (m : Mc) (i : Ins) (e : Ef) : Bool := decide (e.operand = 0) && (decide (e.reg = 0) && (zeroT e.addr && (zeroT e.cond && fitR m i e.value)))
def effR (m : Mc) (i : Ins) (e : Ef) : Bool := if e.kind = 1 then effR1 m i e else if e.kind = 2 then effR2 m i e else if e.kind = 3 then effR3 m i e else if e.kind = 4 then effR4 m i e else false
end Go.Proofs.Dv
set_option linter.unusedVariables false
set_option linter.unusedSimpArgs false
set_option maxRecDepth 100000
namespace Go.Proofs.Dv
open Go.RowKit
open Nat renaming reduceEqDiff → zA, reduceAdd → zB, reduceSub → zC, reduceLeDiff → zD, reduceLT → zE, reduceMul → zF
open Int renaming reduceToNat → zG, reduceLE → zH, reduceLT → zI
open List renaming set_cons_zero → zJ, set_cons_succ → zK
end Go.Proofs.Dv
set_option linter.unusedVariables false
set_option linter.unusedSimpArgs false
set_option maxRecDepth 100000
namespace Go.Proofs.Dv
open Go.RowKit
open Nat renaming reduceEqDiff → zA, reduceAdd → zB, reduceSub → zC, reduceLeDiff → zD, reduceLT → zE, reduceMul → zF
open Int renaming reduceToNat → zG, reduceLE → zH, reduceLT → zI
open List renaming set_cons_zero → zJ, set_cons_succ → zK
def bkAt (m : Mc) (b : Bk) (j : Nat) (r : Int) : Bool := inB r 0 (IntKind.i64.wrap ((m.regs.length : Int) - 1)) && ((b.regs.take j).all (fun q => !decide (q = r)) && decide (regW m r = regW m (bank0 b)))
def bkR (m : Mc) (i : Nat) (b : Bk) : Bool := (nameOK b.name && !decide ((b.regs.length : Int) = 0)) && ((m.banks.take i).all (fun q => !decide (q.name = b.name)) && allI (bkAt m b) 0 b.regs)
def banksR (m : Mc) : Bool := allI (bkR m) 0 m.banks
end Go.Proofs.Dv
set_option linter.unusedVariables false
set_option linter.unusedSimpArgs false
set_option maxRecDepth 100000
namespace Go.Proofs.Dv
open Go.RowKit
open Nat renaming reduceEqDiff → zA, reduceAdd → zB, reduceSub → zC, reduceLeDiff → zD, reduceLT → zE, reduceMul → zF
open Int renaming reduceToNat → zG, reduceLE → zH, reduceLT → zI
open List renaming set_cons_zero → zJ, set_cons_succ → zK
def pSt (b : Int) (n : Int) (p : Pc) : Int := if inB b p.at_ (IntKind.i64.wrap (IntKind.i64.wrap (p.at_ + p.len) - 1)) = true then IntKind.i64.wrap (n + 1) else n
def oSt (b : Int) (n : Int) (o : Opn) : Int := o.pieces.foldl (pSt b) n
def apB (i : Ins) (b : Int) : Int := i.operands.foldl (oSt b) (bitI i.mask b)
def apR (m : Mc) (i : Ins) : Bool := allI (fun j (_ : Nat) => !decide (1 < apB i (j : Int))) 0 (List.range (W8 m).toNat)
end Go.Proofs.Dv
set_option linter.unusedVariables false
set_option linter.unusedSimpArgs false
set_option maxRecDepth 100000
namespace Go.Proofs.Dv
open Go.RowKit
open Nat renaming reduceEqDiff → zA, reduceAdd → zB, reduceSub → zC, reduceLeDiff → zD, reduceLT → zE, reduceMul → zF
open Int renaming reduceToNat → zG, reduceLE → zH, reduceLT → zI
open List renaming set_cons_zero → zJ, set_cons_succ → zK
def kndF (k : Int) (n : Int) (e : Ef) : Int := if e.kind = k then IntKind.i64.wrap (n + 1) else n
def kndN (k : Int) (es : List Ef) : Int := es.foldl (kndF k) 0
def bitsR (i : Ins) : Bool := allI (fun j (_ : Nat) => !decide (bitI i.mask (j : Int) < bitI i.match_ (j : Int))) 0 (List.range 64)
def opsR (m : Mc) (i : Ins) : Bool := allI (fun k (_ : Opn) => opRk m i k) 0 i.operands
def tailR (m : Mc) (i : Ins) : Bool := inB i.unit 0 (IntKind.i64.wrap ((m.units.length : Int) - 1)) && (inB i.busy 1 15 && (inB i.latency 1 15 && (inB i.slots 0 2 && (decide (i.slots = 0) || decide (kndN 3 i.effects = 1)))))
def insR (m : Mc) (i : Ins) : Bool := decide (i.mask < p2 (W8 m).toNat) && (bitsR i && (opsR m i && (apR m i && (i.effects.all (effR m i) && (!(decide (1 < kndN 3 i.effects) || (decide (0 < kndN 4 i.effects) && decide (1 < (i.effects.length : Int)))) && tailR m i)))))
end Go.Proofs.Dv
set_option linter.unusedVariables false
set_option linter.unusedSimpArgs false
set_option maxRecDepth 100000
namespace Go.Proofs.Dv
open Go.RowKit
open Nat renaming reduceEqDiff → zA, reduceAdd → zB, reduceSub → zC, reduceLeDiff → zD, reduceLT → zE, reduceMul → zF
open Int renaming reduceToNat → zG, reduceLE → zH, reduceLT → zI
open List renaming set_cons_zero → zJ, set_cons_succ → zK
theorem allI_get {X : Type} {p : Nat → X → Bool} : ∀ (l : List X) (k : Nat), allI p k l = true → ∀ (i : Nat) (x : X), l[i]? = some x → p (k + i) x = true
  | [], k, _, i, x, h => by simp at h
  | y :: l, k, h, i, x, hx => by
    simp only [allI, Bool.and_eq_true] at h
    cases i with
    | zero => simp at hx; subst hx; exact h.1
    | succ i =>
      have := allI_get l (k + 1) h.2 i x (by simpa using hx)
      rwa [show k + (i + 1) = k + 1 + i by omega]
def headR (m : Mc) : Bool := nameOK m.name && (inB m.word 1 4 && ((decide (m.address = 16) || decide (m.address = 32)) && (regsR m && (banksR m && unitsR m))))
def insAt (m : Mc) (j : Nat) (i : Ins) : Bool := (nameOK i.name && insR m i) && (m.instrs.take j).all (fun q => !decide (q.name = i.name))
def chkR (m : Mc) : Int := bif !smallOK m then 4 else bif headR m && allI (insAt m) 0 m.instrs then 0 else 8
def MZ (m : Mc) : Prop := ∀ i ∈ m.instrs, (0 ≤ i.mask ∧ i.mask < 18446744073709551616) ∧ (0 ≤ i.match_ ∧ i.match_ < 18446744073709551616) ∧ ∀ e ∈ i.effects, TZ e.addr ∧ TZ e.value ∧ TZ e.cond
end Go.Proofs.Dv
set_option linter.unusedVariables false
set_option linter.unusedSimpArgs false
namespace Go.Proofs.Dv
theorem has_map {α β : Type} [DecidableEq β] (f : α → β) (x : β) : ∀ l : List α, (!has x (l.map f)) = l.all fun q => !decide (f q = x)
  | [] => rfl
  | y :: l => by
    have ih := has_map f x l
    simp only [has, List.map_cons, List.any_cons, List.all_cons, Bool.not_or] at ih ⊢
    rw [ih]
    congr 2
    exact decide_eq_decide.2 eq_comm
theorem has_all {β : Type} [DecidableEq β] (x : β) (l : List β) : (!has x l) = l.all fun q => !decide (q = x) := by
  have := has_map id x l
  simpa using this
theorem fold_names {α : Type} (nm : α → ByteArray) (P : List ByteArray → α → Bool) (l : List α) : ∀ (xs pre : List α) (ok : Bool), l = pre ++ xs →
    (xs.foldl (fun (a : Bool × List ByteArray) x => (a.1 && P a.2 x, a.2 ++ [nm x])) (ok, pre.map nm)).1 = (ok && allI (fun i x => P ((l.take i).map nm) x) pre.length xs)
  | [], pre, ok, h => by simp [allI]
  | x :: xs, pre, ok, h => by
    have ih := fold_names nm P l xs (pre ++ [x]) (ok && P (pre.map nm) x) (by rw [h]; simp)
    simp only [List.foldl_cons, allI]
    rw [List.map_append, List.map_singleton] at ih
    rw [ih, List.length_append, List.length_singleton, h, List.take_left', Bool.and_assoc]
    rfl
theorem fold_idx {α : Type} (q : Nat → α → Bool) : ∀ (xs : List α) (n : Nat) (ok : Bool), (xs.foldl (fun (a : Nat × Bool) x => (a.1 + 1, a.2 && q a.1 x)) (n, ok)).2 = (ok && allI q n xs)
  | [], n, ok => by simp [allI]
  | x :: xs, n, ok => by rw [List.foldl_cons, fold_idx q xs, allI, Bool.and_assoc]
theorem allI_congr {X : Type} {p q : Nat → X → Bool} : ∀ (l : List X) (k : Nat), (∀ j x, l[j]? = some x → p (k + j) x = q (k + j) x) → allI p k l = allI q k l
  | [], _, _ => rfl
  | x :: l, k, h => by
    have h0 := h 0 x rfl
    rw [allI, allI, show p k x = q k x from h0, allI_congr l (k + 1) fun j y hy => ?_]
    have := h (j + 1) y (by simpa using hy)
    rwa [show k + 1 + j = k + (j + 1) by omega]
theorem regs_eq (m : Mc) : regsOK m = regsR m := by
  unfold regsOK regsR
  have := fold_names Rg.name (fun ns r => freshB ns r.name && inB r.width 1 64 && regRest m r) m.regs m.regs [] true rfl
  simp only [List.map_nil, List.length_nil, Bool.true_and] at this
  rw [show regF m = (fun (a : Bool × List ByteArray) r => (a.1 && (freshB a.2 r.name && inB r.width 1 64 && regRest m r), a.2 ++ [Rg.name r])) from rfl, this, Bool.and_comm]
  congr 1
  refine allI_congr _ _ (fun i r _ => ?_)
  simp only [rgAt, freshB, has_map]
  cases nameOK r.name <;> cases inB r.width 1 64 <;> cases regRest m r <;> simp
theorem units_eq (m : Mc) : unitsOK m = unitsR m := by
  unfold unitsOK unitsR
  have := fold_names Un.name (fun ns u => unitOK ns u) m.units m.units [] true rfl
  simp only [List.map_nil, List.length_nil, Bool.true_and] at this
  rw [show unitF = (fun (a : Bool × List ByteArray) u => (a.1 && unitOK a.2 u, a.2 ++ [Un.name u])) from rfl, this, Bool.and_comm]
  congr 1
  refine allI_congr _ _ (fun i r _ => ?_)
  simp only [unAt, unitOK, freshB, has_map]
  cases nameOK r.name <;> cases inB r.count 1 4 <;> simp
theorem bank_eq (m : Mc) (b : Bk) (x : Bool) : (b.regs.foldl (bankRF m b) (0, x)).2 = (x && allI (bkAt m b) 0 b.regs) := by
  have e : bankRF m b = fun (a : Nat × Bool) r => (a.1 + 1, a.2 && bkAt m b a.1 r) := by
    funext a r
    simp only [bankRF, bkAt, has_all, Bool.and_assoc]
  rw [e]
  exact fold_idx _ _ _ _
theorem banks_eq (m : Mc) : banksOK m = banksR m := by
  unfold banksOK banksR
  have := fold_names Bk.name (fun ns b => (freshB ns b.name && decide (0 < (b.regs.length : Int))) && allI (bkAt m b) 0 b.regs) m.banks m.banks [] true rfl
  simp only [List.map_nil, List.length_nil, Bool.true_and] at this
  rw [show bankF m = (fun (a : Bool × List ByteArray) b => (a.1 && ((freshB a.2 b.name && decide (0 < (b.regs.length : Int))) && allI (bkAt m b) 0 b.regs), a.2 ++ [Bk.name b])) from ?_, this]
  · refine allI_congr _ _ (fun i b _ => ?_)
    simp only [bkR, freshB, has_map, gt0]
    cases nameOK b.name <;> cases decide ((b.regs.length : Int) = 0) <;> simp
  · funext a b
    simp only [bankF, bank_eq, Bool.and_assoc]
end Go.Proofs.Dv
set_option linter.unusedVariables false
set_option linter.unusedSimpArgs false
namespace Go.Proofs.Dv
open Go.RowKit
open Nat renaming reduceEqDiff → zA, reduceAdd → zB, reduceSub → zC, reduceLeDiff → zD, reduceLT → zE, reduceMul → zF
open Int renaming reduceToNat → zG, reduceLE → zH, reduceLT → zI
open List renaming set_cons_zero → zJ, set_cons_succ → zK
theorem bv_nat (a : Nat) : BitVec.ofInt 64 (a : Int) = BitVec.ofNat 64 a := BitVec.ofInt_natCast ..
theorem uand_nat {a b : Nat} (ha : a < 2 ^ 64) (hb : b < 2 ^ 64) : uand (a : Int) (b : Int) = ((a &&& b : Nat) : Int) := by
  have hlt : a &&& b < 2 ^ 64 := Nat.and_lt_two_pow a hb
  unfold uand
  show IntKind.u64.wrap ((BitVec.ofInt 64 (a : Int) &&& BitVec.ofInt 64 (b : Int)).toNat : Int) = _
  rw [bv_nat, bv_nat, BitVec.toNat_and, BitVec.toNat_ofNat, BitVec.toNat_ofNat, Nat.mod_eq_of_lt ha, Nat.mod_eq_of_lt hb]
  exact wu _ (by omega) (by omega)
theorem uor_nat {a b : Nat} (ha : a < 2 ^ 64) (hb : b < 2 ^ 64) : uor (a : Int) (b : Int) = ((a ||| b : Nat) : Int) := by
  have hlt : a ||| b < 2 ^ 64 := Nat.or_lt_two_pow ha hb
  unfold uor
  show IntKind.u64.wrap ((BitVec.ofInt 64 (a : Int) ||| BitVec.ofInt 64 (b : Int)).toNat : Int) = _
  rw [bv_nat, bv_nat, BitVec.toNat_or, BitVec.toNat_ofNat, BitVec.toNat_ofNat, Nat.mod_eq_of_lt ha, Nat.mod_eq_of_lt hb]
  exact wu _ (by omega) (by omega)
theorem bit_lt {a i n : Nat} (ha : a < 2 ^ n) (h : a.testBit i = true) : i < n := by
  rcases Nat.lt_or_ge i n with h' | h'
  · exact h'
  · have := Nat.testBit_lt_two_pow (Nat.lt_of_lt_of_le ha (Nat.pow_le_pow_right (by omega) h'))
    rw [this] at h; simp at h
theorem uandn_zero {a b : Nat} (ha : a < 2 ^ 64) : uandn (a : Int) (b : Int) = 0 ↔ ∀ i, i < 64 → a.testBit i = true → b.testBit i = true := by
  have e : uandn (a : Int) (b : Int) = (((BitVec.ofNat 64 a &&& ~~~ BitVec.ofNat 64 b).toNat : Nat) : Int) := by
    unfold uandn
    show IntKind.u64.wrap ((BitVec.ofInt 64 (a : Int) &&& ~~~ BitVec.ofInt 64 (b : Int)).toNat : Int) = _
    rw [bv_nat, bv_nat]
    exact wu _ (Int.natCast_nonneg _) (by have := (BitVec.ofNat 64 a &&& ~~~ BitVec.ofNat 64 b).isLt; omega)
  rw [e]
  constructor
  · intro h i hi64 hi
    have h0 : (BitVec.ofNat 64 a &&& ~~~ BitVec.ofNat 64 b) = 0#64 := BitVec.eq_of_toNat_eq (by simpa using Int.ofNat_eq_zero.1 h)
    have := congrArg (fun v => v.getLsbD i) h0
    simp only [BitVec.getLsbD_and, BitVec.getLsbD_not, BitVec.getLsbD_ofNat, hi64, hi, decide_true, Bool.true_and, BitVec.getLsbD_zero, Nat.zero_testBit, Bool.not_eq_false'] at this
    exact this
  · intro h
    have h0 : (BitVec.ofNat 64 a &&& ~~~ BitVec.ofNat 64 b) = 0#64 := by
      apply BitVec.eq_of_getLsbD_eq
      intro i hi
      simp only [BitVec.getLsbD_and, BitVec.getLsbD_not, BitVec.getLsbD_ofNat, hi, decide_true, Bool.true_and, BitVec.getLsbD_zero, Nat.zero_testBit]
      have := h i hi
      cases ha : a.testBit i with
      | false => rfl
      | true => rw [this ha]; rfl
    rw [h0]; rfl
def TB (T : Nat) (c : Nat → Nat) : Prop := T < 2 ^ 64 ∧ ∀ b, c b ≤ 1 ∧ T.testBit b = decide (c b = 1)
theorem step_bits {T n : Nat} {c d : Nat → Nat} (hT : TB T c) (hn : TB n d) : (uand (T : Int) (n : Int) = 0 ↔ ∀ b, c b + d b ≤ 1) ∧ ((∀ b, c b + d b ≤ 1) → ∃ T' : Nat, uor (T : Int) (n : Int) = (T' : Int) ∧ TB T' fun b => c b + d b) := by
  refine ⟨?_, fun h => ⟨T ||| n, uor_nat hT.1 hn.1, Nat.or_lt_two_pow hT.1 hn.1, fun b => ⟨h b, ?_⟩⟩⟩
  · rw [uand_nat hT.1 hn.1]
    constructor
    · intro h b
      have h0 : T &&& n = 0 := Int.ofNat_eq_zero.1 h
      have := congrArg (fun x : Nat => x.testBit b) h0
      simp only [Nat.testBit_and, (hT.2 b).2, (hn.2 b).2, Nat.zero_testBit, Bool.and_eq_false_iff, decide_eq_false_iff_not] at this
      have h1 := (hT.2 b).1
      have h2 := (hn.2 b).1
      omega
    · intro h
      have h0 : T &&& n = 0 := by
        apply Nat.eq_of_testBit_eq
        intro b
        simp only [Nat.testBit_and, (hT.2 b).2, (hn.2 b).2, Nat.zero_testBit, Bool.and_eq_false_iff, decide_eq_false_iff_not]
        have := h b
        omega
      rw [h0]; rfl
  · rw [Nat.testBit_or, (hT.2 b).2, (hn.2 b).2, ← Bool.decide_or]
    have := h b
    refine decide_eq_decide.2 ?_
    show c b = 1 ∨ d b = 1 ↔ c b + d b = 1
    omega
def pin (b : Nat) (p : Pc) : Bool := inB (b : Int) p.at_ (p.at_ + p.len - 1)
def PO (W : Int) (p : Pc) : Prop := 1 ≤ p.len ∧ p.len ≤ W ∧ 0 ≤ p.at_ ∧ p.at_ ≤ W - p.len
theorem pcOK_iff {m : Mc} (hW : W8 m ≤ 32) {p : Pc} : pcOK m p = true ↔ PO (W8 m) p := by
  unfold pcOK PO
  simp only [Bool.and_eq_true, inB_iff, decide_eq_true_eq]
  constructor
  · rintro ⟨⟨h1, h2⟩, h3, h4⟩
    rw [wr] at h4 <;> omega
  · rintro ⟨h1, h2, h3, h4⟩
    rw [wr] <;> omega
theorem pcM_bits {W : Int} (hW : W ≤ 32) {p : Pc} (h : PO W p) : ∃ n : Nat, pcM p = (n : Int) ∧ TB n fun b => (pin b p).toNat := by
  obtain ⟨h1, h2, h3, h4⟩ := h
  obtain ⟨L, hL⟩ : ∃ L : Nat, p.len = L := ⟨p.len.toNat, by omega⟩
  obtain ⟨A, hA⟩ : ∃ A : Nat, p.at_ = A := ⟨p.at_.toNat, by omega⟩
  have hlt : (2 ^ L - 1) * 2 ^ A < 2 ^ 64 := by
    have a1 : (2 ^ L - 1) * 2 ^ A ≤ 2 ^ L * 2 ^ A := Nat.mul_le_mul_right _ (Nat.sub_le _ _)
    rw [← Nat.pow_add] at a1
    have a2 : 2 ^ (L + A) ≤ 2 ^ 32 := Nat.pow_le_pow_right (by omega) (by omega)
    have a3 : 2 ^ 32 < 2 ^ 64 := by decide
    omega
  have hc : ((2 : Int) ^ L - 1) = ((2 ^ L - 1 : Nat) : Int) := by
    have := Nat.one_le_two_pow (n := L)
    rw [Int.natCast_sub this, Int.natCast_pow]; rfl
  refine ⟨(2 ^ L - 1) * 2 ^ A, ?_, hlt, fun b => ⟨Bool.toNat_le _, ?_⟩⟩
  · have e1 : min A 64 = A := by omega
    unfold pcM ushl mskI
    rw [if_pos (inB_iff.2 (by omega)), hL, hA, Int.toNat_natCast, Int.toNat_natCast]
    show IntKind.u64.wrap ((2 ^ L - 1) * 2 ^ min A 64) = _
    rw [e1, hc, show ((2 : Int) ^ A) = ((2 ^ A : Nat) : Int) by rw [Int.natCast_pow]; rfl, ← Int.natCast_mul]
    exact wu _ (Int.natCast_nonneg _) (by omega)
  · rw [← Nat.shiftLeft_eq, Nat.testBit_shiftLeft, Nat.testBit_two_pow_sub_one]
    have : pin b p = decide (A ≤ b ∧ b < A + L) := by
      unfold pin inB
      rw [hL, hA, ← Bool.decide_and]
      exact decide_eq_decide.2 (by omega)
    show (decide (b ≥ A) && decide (b - A < L)) = decide ((pin b p).toNat = 1)
    rw [this]
    by_cases h5 : A ≤ b ∧ b < A + L
    · rw [decide_eq_true h5, decide_eq_true h5.1, decide_eq_true (show b - A < L by omega)]; rfl
    · rw [decide_eq_false h5, Bool.eq_iff_iff]
      simp only [Bool.and_eq_true, decide_eq_true_eq, Bool.toNat_false]
      omega
def pcn (b : Nat) (ps : List Pc) : Nat := (ps.map fun p => (pin b p).toNat).sum
theorem pcn_cons {b : Nat} {p : Pc} {ps : List Pc} : pcn b (p :: ps) = (pin b p).toNat + pcn b ps := by simp [pcn]
theorem scan_f {m : Mc} {X : Int} {a : Bool × Int} : ∀ {ps : List Pc}, scan (β := Unit) (tst (pcT m) pcU fun _ _ => ()) (false, X) ps = .go a → a.1 = false
  | [], h => by simp only [scan, Sc.go.injEq] at h; rw [← h]
  | p :: ps, h => by simp [scan, tst, pcT] at h
theorem scan_pcs (m : Mc) (hW : W8 m ≤ 32) : ∀ (ps : List Pc) (T : Nat) (c : Nat → Nat), TB T c →
    ((∀ p ∈ ps, pcOK m p = true) ∧ (∀ b, c b + pcn b ps ≤ 1) → ∃ T' : Nat, scan (β := Unit) (tst (pcT m) pcU fun _ _ => ()) (true, (T : Int)) ps = .go (true, (T' : Int)) ∧ TB T' fun b => c b + pcn b ps) ∧
    (∀ a, scan (β := Unit) (tst (pcT m) pcU fun _ _ => ()) (true, (T : Int)) ps = .go a → a.1 = true → (∀ p ∈ ps, pcOK m p = true) ∧ (∀ b, c b + pcn b ps ≤ 1))
  | [], T, c, hT => ⟨fun _ => ⟨T, rfl, hT⟩, fun a _ _ => ⟨fun p hp => by simp at hp, fun b => (hT.2 b).1⟩⟩
  | p :: ps, T, c, hT => by
    cases hp : pcOK m p with
    | false =>
      refine ⟨fun h => ?_, fun a h => ?_⟩
      · have := h.1 p List.mem_cons_self
        rw [hp] at this; simp at this
      · simp [scan, tst, pcT, hp] at h
    | true =>
      obtain ⟨n, hn, hb⟩ := pcM_bits hW ((pcOK_iff hW).1 hp)
      obtain ⟨s1, s2⟩ := step_bits hT hb
      have e : scan (β := Unit) (tst (pcT m) pcU fun _ _ => ()) (true, (T : Int)) (p :: ps) = scan (tst (pcT m) pcU fun _ _ => ()) (decide (uand (T : Int) (n : Int) = 0), uor (T : Int) (n : Int)) ps := by
        simp only [scan, tst, pcT, hp, Bool.and_self, if_true, pcU, hn]
      rw [e]
      by_cases hd : ∀ b, c b + (pin b p).toNat ≤ 1
      · obtain ⟨T', hT', hTB⟩ := s2 hd
        rw [decide_eq_true (s1.2 hd), hT']
        obtain ⟨i1, i2⟩ := scan_pcs m hW ps T' _ hTB
        simp only [pcn_cons, ← Nat.add_assoc]
        refine ⟨fun h => i1 ⟨fun q hq => h.1 q (List.mem_cons_of_mem _ hq), h.2⟩, fun a h ha => ?_⟩
        obtain ⟨j1, j2⟩ := i2 a h ha
        exact ⟨fun q hq => by rcases List.mem_cons.1 hq with rfl | hq; exact hp; exact j1 q hq, j2⟩
      · rw [decide_eq_false (fun h => hd (s1.1 h))]
        refine ⟨fun h => ?_, fun a h ha => ?_⟩
        · exact (hd fun b => by have := h.2 b; rw [pcn_cons] at this; omega).elim
        · rw [scan_f h] at ha; simp at ha
theorem opTail_f {m : Mc} {i : Ins} {k : Nat} {o : Opn} {T : Int} : (opTail m i k o (false, T)).1 = false := by
  cases h : (opTail m i k o (false, T)).1 with
  | false => rfl
  | true => exact absurd (opTail_ok h).1 (by simp)
theorem opTail_t {m : Mc} {i : Ins} {k : Nat} {o : Opn} {T : Int} : (opTail m i k o (true, T)).1 = opKind m i k o ∧ ((opTail m i k o (true, T)).1 = true → (opTail m i k o (true, T)).2 = T) := by
  have hpow : ∀ (f n : Int), (decide (0 < f) && (decide (6 < f) || decide (n ≤ IntKind.i64.wrap (1 * 2 ^ (min f.toNat IntKind.i64.bits))))) = (decide (0 < f) && (decide (6 < f) || decide (n ≤ p2 f.toNat))) := by
    intro f n
    by_cases h : 0 < f ∧ ¬ 6 < f
    · have : f = 1 ∨ f = 2 ∨ f = 3 ∨ f = 4 ∨ f = 5 ∨ f = 6 := by omega
      rcases this with rfl | rfl | rfl | rfl | rfl | rfl <;> rfl
    · by_cases h1 : 0 < f
      · have h2 : 6 < f := by omega
        simp [h1, h2]
      · simp [h1]
  unfold opTail opKind
  simp only [Bool.true_and]
  by_cases hk : o.kind = 1
  · simp only [hk, if_true]
    cases hb : (inB o.bank 0 (IntKind.i64.wrap ((m.banks.length : Int) - 1)) && decide (o.scale = 0)) with
    | false => simp
    | true =>
      simp only [Bool.true_eq_false, if_false, Bool.true_and]
      by_cases ht : o.tied = -1
      · simp only [ht, if_true]
        refine ⟨?_, fun _ => trivial⟩
        cases m.banks[o.bank.toNat]? with
        | none => rfl
        | some b => exact hpow _ _
      · simp only [ht, if_false]
        have hg : decide ((o.pieces.length : Int) = 0) = !decide (0 < (o.pieces.length : Int)) := by rw [gt0]; simp
        rw [hg]
        cases (inB o.tied 0 (IntKind.i64.wrap ((k : Int) - 1)) && !decide (0 < (o.pieces.length : Int))) with
        | false => simp
        | true =>
          simp only [Bool.true_eq_false, if_false, Bool.true_and]
          refine ⟨?_, fun _ => trivial⟩
          cases i.operands[o.tied.toNat]? with
          | none => rfl
          | some q => simp only [Bool.and_assoc]
  · simp only [hk, if_false]
    by_cases h2 : o.kind = 2 ∨ o.kind = 3 ∨ o.kind = 4
    · simp only [h2, if_true, Bool.and_assoc]
      exact ⟨trivial, fun _ => trivial⟩
    · simp only [h2, if_false]
      exact ⟨trivial, fun _ => trivial⟩
theorem opS_eq {m : Mc} (hW : W8 m ≤ 32) (i : Ins) (k : Nat) (o : Opn) :
    ((opS m i k o true).1 = true ↔ o.pieces.all (pcR m.word) = true ∧ (∀ b, pcn b o.pieces ≤ 1) ∧ opKind m i k o = true) ∧
    ((opS m i k o true).1 = true → ∃ F : Nat, (opS m i k o true).2 = (F : Int) ∧ TB F fun b => pcn b o.pieces) := by
  have h0 : TB 0 fun _ => 0 := ⟨by decide, fun b => ⟨by show (0 : Nat) ≤ 1; omega, by simp⟩⟩
  obtain ⟨s1, s2⟩ := scan_pcs m hW o.pieces 0 _ h0
  simp only [Nat.zero_add] at s1 s2
  have hall : o.pieces.all (pcR m.word) = true ↔ ∀ p ∈ o.pieces, pcOK m p = true := by
    rw [List.all_eq_true]; exact Iff.rfl
  rw [hall]
  by_cases hg : (∀ p ∈ o.pieces, pcOK m p = true) ∧ (∀ b, pcn b o.pieces ≤ 1)
  · obtain ⟨T', e, hTB⟩ := s1 hg
    have e2 : opS m i k o true = opTail m i k o (true, (T' : Int)) := by
      unfold opS pcS
      rw [show ((true, (0 : Int)) : Bool × Int) = (true, ((0 : Nat) : Int)) from rfl, e]
    rw [e2, opTail_t.1]
    refine ⟨⟨fun h => ⟨hg.1, hg.2, h⟩, fun h => h.2.2⟩, fun h => ⟨T', opTail_t.2 (by rw [opTail_t.1]; exact h), hTB⟩⟩
  · have e2 : (opS m i k o true).1 = false := by
      unfold opS pcS
      rw [show ((true, (0 : Int)) : Bool × Int) = (true, ((0 : Nat) : Int)) from rfl]
      cases hs : scan (β := Unit) (tst (pcT m) pcU fun _ _ => ()) (true, ((0 : Nat) : Int)) o.pieces with
      | out b => rfl
      | go a =>
        obtain ⟨a1, a2⟩ := a
        cases a1 with
        | false => exact opTail_f
        | true => exact (hg (s2 _ hs rfl)).elim
    rw [e2]
    refine ⟨⟨fun h => by simp at h, fun h => (hg ⟨h.1, h.2.1⟩).elim⟩, fun h => by simp at h⟩
def pcns (b : Nat) (os : List Opn) : Nat := (os.map fun o => pcn b o.pieces).sum
theorem pcns_cons {b : Nat} {o : Opn} {os : List Opn} : pcns b (o :: os) = pcn b o.pieces + pcns b os := by simp [pcns]
theorem ops_fold (m : Mc) (i : Ins) (hW : W8 m ≤ 32) : ∀ (os pre : List Opn) (T : Nat) (c : Nat → Nat), i.operands = pre ++ os → TB T c →
    ((os.foldl (opStep m i) (pre.length, true, strK [112, 99] :: pre.map Opn.name, (T : Int))).2.1 = true ↔ allI (opR m i) pre.length os = true ∧ ∀ b, c b + pcns b os ≤ 1)
  | [], pre, T, c, hi, hT => by
    simp only [List.foldl_nil, allI, true_and, true_iff]
    exact fun b => (hT.2 b).1
  | o :: os, pre, T, c, hi, hT => by
    rw [List.foldl_cons, allI]
    have htake : i.operands.take pre.length = pre := by rw [hi, List.take_left']; rfl
    have hfr : freshB (strK [112, 99] :: pre.map Opn.name) o.name = (nameOK o.name && !decide (o.name = strK [112, 99]) && pre.all fun q => !decide (q.name = o.name)) := by
      unfold freshB
      rw [show has o.name (strK [112, 99] :: pre.map Opn.name) = (decide (o.name = strK [112, 99]) || has o.name (pre.map Opn.name)) from rfl, Bool.not_or, has_map, Bool.and_assoc]
    have hR : opR m i pre.length o = true ↔ freshB (strK [112, 99] :: pre.map Opn.name) o.name = true ∧ o.pieces.all (pcR m.word) = true ∧ opKind m i pre.length o = true := by
      unfold opR opHead
      rw [hfr, htake]
      simp only [Bool.and_eq_true]
      constructor
      · rintro ⟨⟨⟨a, b⟩, c⟩, d, e⟩; exact ⟨⟨⟨a, b⟩, d⟩, c, e⟩
      · rintro ⟨⟨⟨a, b⟩, d⟩, c, e⟩; exact ⟨⟨⟨a, b⟩, c⟩, d, e⟩
    rw [Bool.and_eq_true, hR]
    have hstop : ∀ (X : Nat × Bool × List ByteArray × Int), X.2.1 = false → ¬ (os.foldl (opStep m i) X).2.1 = true := fun X hX h => by
      rw [(opsF_ok _ _ h).1] at hX; simp at hX
    cases hf : freshB (strK [112, 99] :: pre.map Opn.name) o.name with
    | false =>
      refine ⟨fun h => (hstop _ ?_ h).elim, fun h => ?_⟩
      · simp only [opStep, hf, Bool.and_false]
        cases ho : (opS m i pre.length o false).1 with
        | false => rfl
        | true => have := (opS_ok ho).1; simp at this
      · simp at h
    | true =>
      obtain ⟨o1, o2⟩ := opS_eq hW i pre.length o
      have e : opStep m i (pre.length, true, strK [112, 99] :: pre.map Opn.name, (T : Int)) o = (pre.length + 1, (opS m i pre.length o true).1 && decide (uand (T : Int) (opS m i pre.length o true).2 = 0), (strK [112, 99] :: pre.map Opn.name) ++ [o.name], uor (T : Int) (opS m i pre.length o true).2) := by
        simp only [opStep, hf, Bool.and_self]
      rw [e]
      cases hg : (opS m i pre.length o true).1 with
      | false =>
        refine ⟨fun h => (hstop _ (by simp) h).elim, fun h => ?_⟩
        have : (opS m i pre.length o true).1 = true := o1.2 ⟨h.1.1.2.1, fun b => by have := h.2 b; rw [pcns_cons] at this; omega, h.1.1.2.2⟩
        rw [hg] at this; simp at this
      | true =>
        obtain ⟨F, hF, hFB⟩ := o2 hg
        obtain ⟨s1, s2⟩ := step_bits hT hFB
        rw [hF]
        by_cases hd : ∀ b, c b + pcn b o.pieces ≤ 1
        · obtain ⟨T', hT', hTB⟩ := s2 hd
          rw [decide_eq_true (s1.2 hd), hT']
          have ih := ops_fold m i hW os (pre ++ [o]) T' _ (by rw [hi]; simp) hTB
          simp only [List.length_append, List.length_singleton, List.map_append, List.map_singleton] at ih
          simp only [Bool.and_self, List.cons_append]
          rw [ih]
          simp only [pcns_cons, ← Nat.add_assoc]
          have hq := o1.1 hg
          exact ⟨fun h => ⟨⟨⟨trivial, hq.1, hq.2.2⟩, h.1⟩, h.2⟩, fun h => ⟨h.1.2, h.2⟩⟩
        · rw [decide_eq_false (fun h => hd (s1.1 h))]
          refine ⟨fun h => (hstop _ (by simp) h).elim, fun h => ?_⟩
          exact (hd fun b => by have := h.2 b; rw [pcns_cons] at this; omega).elim
theorem pSt_fold {b : Nat} (hp' : ∀ p : Pc, PO 32 p → IntKind.i64.wrap (IntKind.i64.wrap (p.at_ + p.len) - 1) = p.at_ + p.len - 1) : ∀ (ps : List Pc) (n : Nat), n + ps.length ≤ 100000000 → (∀ p ∈ ps, PO 32 p) → ps.foldl (pSt b) (n : Int) = ((n + pcn b ps : Nat) : Int)
  | [], n, _, _ => by simp [pcn]
  | p :: ps, n, hn, hp => by
    have hl : n + 1 + ps.length ≤ 100000000 := by simp only [List.length_cons] at hn; omega
    have hp1 := hp' p (hp p List.mem_cons_self)
    have e : pSt b (n : Int) p = ((n + (pin b p).toNat : Nat) : Int) := by
      unfold pSt pin
      rw [hp1]
      cases inB (b : Int) p.at_ (p.at_ + p.len - 1) with
      | false => simp
      | true => simp only [if_true, Bool.toNat_true]; rw [wr] <;> omega
    rw [List.foldl_cons, e, pSt_fold hp' ps _ (by have := (pin b p).toNat_le; omega) (fun q hq => hp q (List.mem_cons_of_mem _ hq)), pcn_cons, Nat.add_assoc]
theorem pcn_le {b : Nat} : ∀ ps : List Pc, pcn b ps ≤ ps.length
  | [] => by simp [pcn]
  | p :: ps => by rw [pcn_cons]; have := pcn_le (b := b) ps; have := (pin b p).toNat_le; simp only [List.length_cons]; omega
theorem oSt_fold {b : Nat} (hp' : ∀ p : Pc, PO 32 p → IntKind.i64.wrap (IntKind.i64.wrap (p.at_ + p.len) - 1) = p.at_ + p.len - 1) : ∀ (os : List Opn) (n : Nat), n + os.length * 1001 ≤ 100000000 → (∀ o ∈ os, o.pieces.length ≤ 1000 ∧ ∀ p ∈ o.pieces, PO 32 p) → os.foldl (oSt b) (n : Int) = ((n + pcns b os : Nat) : Int)
  | [], n, _, _ => by simp [pcns]
  | o :: os, n, hn, hp => by
    have hl : n + 1000 + os.length * 1001 ≤ 100000000 := by simp only [List.length_cons] at hn; omega
    obtain ⟨h1, h2⟩ := hp o List.mem_cons_self
    have e : oSt b (n : Int) o = ((n + pcn b o.pieces : Nat) : Int) := pSt_fold hp' o.pieces n (by omega) h2
    have := pcn_le (b := b) o.pieces
    rw [List.foldl_cons, e, oSt_fold hp' os _ (by omega) (fun q hq => hp q (List.mem_cons_of_mem _ hq)), pcns_cons, Nat.add_assoc]
theorem bitI_nat {X b : Nat} : bitI (X : Int) (b : Int) = ((X.testBit b).toNat : Int) := by
  unfold bitI
  rw [Int.toNat_natCast, Int.toNat_natCast, Nat.testBit_eq_decide_div_mod_eq]
  rcases Nat.mod_two_eq_zero_or_one (X / 2 ^ b) with h | h <;> rw [h] <;> rfl
theorem allI_range {p : Nat → Bool} : ∀ (n k : Nat), allI (fun j (_ : Nat) => p j) k (List.range' k n) = true ↔ ∀ j, k ≤ j → j < k + n → p j = true
  | 0, k => by simp [allI]; intro j h1 h2; omega
  | n + 1, k => by
    rw [List.range'_succ, allI, Bool.and_eq_true, allI_range n (k + 1)]
    constructor
    · rintro ⟨h1, h2⟩ j hj hj'
      rcases Nat.eq_or_lt_of_le hj with rfl | h
      · exact h1
      · exact h2 j (by omega) (by omega)
    · exact fun h => ⟨h k (Nat.le_refl _) (by omega), fun j h1 h2 => h j (by omega) (by omega)⟩
theorem allI_range0 {p : Nat → Bool} {n : Nat} : allI (fun j (_ : Nat) => p j) 0 (List.range n) = true ↔ ∀ j, j < n → p j = true := by
  rw [List.range_eq_range', allI_range]
  simp
theorem opsR_eq (m : Mc) (i : Ins) : opsR m i = allI (opR m i) 0 i.operands := by
  unfold opsR
  refine allI_congr _ _ fun j o ho => ?_
  simp only [opRk, Nat.zero_add, ho]
theorem opsR_pcs {m : Mc} {i : Ins} (hW : W8 m ≤ 32) (h : opsR m i = true) : ∀ o ∈ i.operands, ∀ p ∈ o.pieces, PO (W8 m) p := by
  rw [opsR_eq] at h
  intro o ho p hp
  obtain ⟨j, e⟩ := List.mem_iff_getElem?.1 ho
  have := allI_get _ _ h j o e
  simp only [opR, opHead, Bool.and_eq_true, List.all_eq_true] at this
  exact (pcOK_iff hW).1 (this.1.2 p hp)
theorem pcn_out {b : Nat} {W : Int} (hb : W ≤ b) : ∀ {ps : List Pc}, (∀ p ∈ ps, PO W p) → pcn b ps = 0
  | [], _ => rfl
  | p :: ps, h => by
    obtain ⟨h1, h2, h3, h4⟩ := h p List.mem_cons_self
    have : pin b p = false := by
      unfold pin inB
      simp only [Bool.and_eq_false_iff, decide_eq_false_iff_not]
      omega
    rw [pcn_cons, this, pcn_out hb fun q hq => h q (List.mem_cons_of_mem _ hq)]; rfl
theorem pcns_out {b : Nat} {W : Int} (hb : W ≤ b) : ∀ {os : List Opn}, (∀ o ∈ os, ∀ p ∈ o.pieces, PO W p) → pcns b os = 0
  | [], _ => rfl
  | o :: os, h => by
    rw [pcns_cons, pcn_out hb (h o List.mem_cons_self), pcns_out hb fun q hq => h q (List.mem_cons_of_mem _ hq)]
theorem apR_iff {m : Mc} {i : Ins} {X : Nat} (hW : W8 m ≤ 32) (hX : i.mask = X) (hXl : (X : Int) < p2 (W8 m).toNat) (hop : i.operands.length ≤ 1000) (hp : ∀ o ∈ i.operands, o.pieces.length ≤ 1000) (hR : opsR m i = true) :
    apR m i = true ↔ ∀ b, (X.testBit b).toNat + pcns b i.operands ≤ 1 := by
  have hpo := opsR_pcs hW hR
  have hpo32 : ∀ o ∈ i.operands, ∀ p ∈ o.pieces, PO 32 p := fun o ho p hq => by
    obtain ⟨h1, h2, h3, h4⟩ := hpo o ho p hq
    exact ⟨h1, by omega, h3, by omega⟩
  have hww : ∀ p : Pc, PO 32 p → IntKind.i64.wrap (IntKind.i64.wrap (p.at_ + p.len) - 1) = p.at_ + p.len - 1 := by
    rintro p ⟨h1, h2, h3, h4⟩
    rw [wr (p.at_ + p.len), wr] <;> omega
  have hap : ∀ b : Nat, apB i (b : Int) = (((X.testBit b).toNat + pcns b i.operands : Nat) : Int) := by
    intro b
    unfold apB
    rw [hX, bitI_nat]
    exact oSt_fold hww _ _ (by have := (X.testBit b).toNat_le; omega) fun o ho => ⟨hp o ho, hpo32 o ho⟩
  unfold apR
  rw [allI_range0]
  have hXn : X < 2 ^ (W8 m).toNat := by
    unfold p2 at hXl
    have : ((2 ^ (W8 m).toNat : Nat) : Int) = 2 ^ (W8 m).toNat := by rw [Int.natCast_pow]; rfl
    omega
  constructor
  · intro h b
    by_cases hb : b < (W8 m).toNat
    · have := h b hb
      rw [hap] at this
      simp only [Bool.not_eq_true', decide_eq_false_iff_not] at this
      omega
    · have h1 : X.testBit b = false := by
        cases hx : X.testBit b with
        | false => rfl
        | true => exact (hb (bit_lt hXn hx)).elim
      rw [h1, pcns_out (b := b) (W := W8 m) (by omega) hpo]; decide
  · intro h b hb
    rw [hap]
    have := h b
    simp only [Bool.not_eq_true', decide_eq_false_iff_not]
    omega
theorem W8_eq {m : Mc} (h : inB m.word 1 4 = true) : W8 m = 8 * m.word := by
  rw [inB_iff] at h
  exact wr _ (by omega) (by omega)
theorem below_iff {X : Nat} {n : Int} (hn : n = 8 ∨ n = 16 ∨ n = 24 ∨ n = 32) (hX : X < 2 ^ 64) : uandn (X : Int) (mskI n) = 0 ↔ (X : Int) < p2 n.toNat := by
  obtain ⟨k, rfl, hk⟩ : ∃ k : Nat, n = k ∧ k ≤ 32 ∧ 1 ≤ k := ⟨n.toNat, by omega, by omega, by omega⟩
  have hm : mskI (k : Int) = ((2 ^ k - 1 : Nat) : Int) := by
    unfold mskI
    rw [if_pos (inB_iff.2 (by omega)), Int.toNat_natCast]
    have := Nat.one_le_two_pow (n := k)
    rw [Int.natCast_sub this, Int.natCast_pow]; rfl
  rw [hm, uandn_zero hX]
  unfold p2
  rw [Int.toNat_natCast, show ((2 : Int) ^ k) = ((2 ^ k : Nat) : Int) by rw [Int.natCast_pow]; rfl, Int.ofNat_lt]
  constructor
  · intro h
    apply Nat.lt_pow_two_of_testBit
    intro i hi
    cases hx : X.testBit i with
    | false => rfl
    | true =>
      have := h i (bit_lt hX hx) hx
      rw [Nat.testBit_two_pow_sub_one] at this
      simp only [decide_eq_true_eq] at this
      omega
  · intro h i _ hi
    rw [Nat.testBit_two_pow_sub_one]
    exact decide_eq_true (bit_lt h hi)
theorem bitsR_iff {i : Ins} {X Y : Nat} (hX : i.mask = X) (hY : i.match_ = Y) (hYl : Y < 2 ^ 64) : bitsR i = true ↔ uandn (Y : Int) (X : Int) = 0 := by
  unfold bitsR
  rw [allI_range0, uandn_zero hYl, hX, hY]
  refine forall_congr' fun b => forall_congr' fun _ => ?_
  rw [bitI_nat, bitI_nat]
  cases X.testBit b <;> cases Y.testBit b <;> simp
theorem ops_eq {m : Mc} {i : Ins} (hw : inB m.word 1 4 = true) (hM : 0 ≤ i.mask ∧ i.mask < 18446744073709551616) (hN : 0 ≤ i.match_ ∧ i.match_ < 18446744073709551616) (hop : i.operands.length ≤ 1000) (hp : ∀ o ∈ i.operands, o.pieces.length ≤ 1000) (ok : Bool) :
    (opsS m i ok).2.1 = (ok && (decide (i.mask < p2 (W8 m).toNat) && (bitsR i && (opsR m i && apR m i)))) := by
  have hW8 := W8_eq hw
  rw [inB_iff] at hw
  have hW : W8 m ≤ 32 := by omega
  obtain ⟨X, hX⟩ : ∃ X : Nat, i.mask = X := ⟨i.mask.toNat, by omega⟩
  obtain ⟨Y, hY⟩ : ∃ Y : Nat, i.match_ = Y := ⟨i.match_.toNat, by omega⟩
  have hXl : X < 2 ^ 64 := by omega
  have hYl : Y < 2 ^ 64 := by omega
  have h1 : decide (uandn i.mask (mskI (W8 m)) = 0) = decide (i.mask < p2 (W8 m).toNat) := decide_eq_decide.2 (by rw [hX]; exact below_iff (by omega) hXl)
  have h2 : decide (uandn i.match_ i.mask = 0) = bitsR i := by
    rw [Bool.eq_iff_iff, bitsR_iff hX hY hYl, decide_eq_true_eq, hX, hY]
  have h3 : TB X fun b => (X.testBit b).toNat := ⟨hXl, fun b => ⟨Bool.toNat_le _, by show X.testBit b = decide ((X.testBit b).toNat = 1); cases X.testBit b <;> rfl⟩⟩
  unfold opsS
  rw [h1, h2]
  have hfold := ops_fold m i hW i.operands [] X _ rfl h3
  simp only [List.length_nil, List.map_nil] at hfold
  cases hc : (ok && (decide (i.mask < p2 (W8 m).toNat) && bitsR i)) with
  | false =>
    have hstop : (i.operands.foldl (opStep m i) (0, false, [strK [112, 99]], i.mask)).2.1 = false := by
      cases h : (i.operands.foldl (opStep m i) (0, false, [strK [112, 99]], i.mask)).2.1 with
      | false => rfl
      | true => exact absurd (opsF_ok _ _ h).1 (by simp)
    rw [hstop]
    rw [← Bool.and_assoc, ← Bool.and_assoc, Bool.and_assoc ok, hc]; rfl
  | true =>
    rw [← Bool.and_assoc, ← Bool.and_assoc, Bool.and_assoc ok, hc, Bool.true_and, Bool.eq_iff_iff, hX, hfold, ← opsR_eq, Bool.and_eq_true]
    simp only [Bool.and_eq_true, decide_eq_true_eq] at hc
    refine and_congr_right fun hR => (apR_iff hW hX (by rw [← hX]; exact hc.2.1) hop hp hR).symm
end Go.Proofs.Dv
set_option linter.unusedVariables false
set_option linter.unusedSimpArgs false
namespace Go.Proofs.Dv
open Go.RowKit
open Nat renaming reduceEqDiff → zA, reduceAdd → zB, reduceSub → zC, reduceLeDiff → zD, reduceLT → zE, reduceMul → zF
open Int renaming reduceToNat → zG, reduceLE → zH, reduceLT → zI
open List renaming set_cons_zero → zJ, set_cons_succ → zK
theorem inB64 {n : Int} : inB n 1 64 = true ↔ 1 ≤ n ∧ n ≤ 64 := inB_iff
theorem node_eq (t : T) (hk : 0 ≤ t.kind) (hs : ∀ u ∈ t.sub, inB u.width 1 64 = true) : nodeOK t = formedN t := by
  unfold nodeOK formedN
  cases hw : inB t.width 1 64 with
  | false => rfl
  | true =>
    simp only [Bool.not_true, cond_false]
    by_cases h24 : 24 < t.kind
    · have hr := row_gt (show 24 < t.kind.toNat by omega)
      have h1 : ¬ t.kind = 1 := by omega
      have h2 : ¬ t.kind = 2 := by omega
      simp [partsOf, hr, h1, h2, h24]
    · have hw' := inB64.1 hw
      have key : t.kind = 0 ∨ t.kind = 1 ∨ t.kind = 2 ∨ t.kind = 3 ∨ t.kind = 4 ∨ t.kind = 5 ∨ t.kind = 6 ∨ t.kind = 7 ∨ t.kind = 8 ∨ t.kind = 9 ∨ t.kind = 10 ∨ t.kind = 11 ∨ t.kind = 12 ∨ t.kind = 13 ∨ t.kind = 14 ∨ t.kind = 15 ∨ t.kind = 16 ∨ t.kind = 17 ∨ t.kind = 18 ∨ t.kind = 19 ∨ t.kind = 20 ∨ t.kind = 21 ∨ t.kind = 22 ∨ t.kind = 23 ∨ t.kind = 24 := by omega
      have hp : ∀ k : Nat, partsOf k = (rowOf k).2.1 := fun _ => rfl
      have hh : ∀ k : Nat, howOf k = (rowOf k).2.2 := fun _ => rfl
      have hlow : ∀ (l w s : Int), 1 ≤ w → w ≤ 64 → inB s 1 64 = true → (decide (0 ≤ l) && inB s 1 64 && decide (w ≤ s) && decide (l ≤ IntKind.i64.wrap (s - w))) = (decide (0 ≤ l) && decide (l ≤ s) && decide (IntKind.i64.wrap (l + w) ≤ s)) := by
        intro l w s h1 h2 h3
        have h4 := inB64.1 h3
        rw [h3, wr (s - w) (by omega) (by omega)]
        by_cases h5 : 0 ≤ l ∧ l ≤ s
        · rw [wr (l + w) (by omega) (by omega), Bool.eq_iff_iff]
          simp only [Bool.and_eq_true, decide_eq_true_eq, and_true]
          omega
        · rw [Bool.eq_iff_iff]
          simp only [Bool.and_eq_true, decide_eq_true_eq, and_true]
          omega
      rcases len5 t.sub with hq | ⟨a, hq⟩ | ⟨a, b, hq⟩ | ⟨a, b, c, hq⟩ | ⟨a, b, c, d, r, hq⟩
      case inr.inr.inr.inr =>
        have q1 : ∀ k : Int, k ≤ 3 → decide ((t.sub.length : Int) = k) = false := fun k hk => decide_eq_false (by rw [hq]; simp only [List.length_cons]; omega)
        rcases key with h | h | h | h | h | h | h | h | h | h | h | h | h | h | h | h | h | h | h | h | h | h | h | h | h
        all_goals
          rw [h]
          simp [hp, hh, rowOf, tabR, Int.reduceToNat, q1]
          try simp [hq]
      all_goals
        rw [hq] at hs
        simp only [List.mem_cons, forall_eq_or_imp, List.not_mem_nil, false_implies, implies_true, and_true] at hs
        rcases key with h | h | h | h | h | h | h | h | h | h | h | h | h | h | h | h | h | h | h | h | h | h | h | h | h
      all_goals
        rw [h]
        first
          | (simp [hp, hh, rowOf, tabR, widthsOK, subW, hq, hs, Int.reduceToNat]; done)
          | (simp [hp, hh, rowOf, tabR, widthsOK, subW, hq, hs, Int.reduceToNat, Bool.and_assoc]; done)
          | (have := hlow t.low t.width _ hw'.1 hw'.2 hs; simp [hp, hh, rowOf, tabR, widthsOK, subW, hq, hs, Int.reduceToNat, Bool.and_assoc] at this ⊢; simp [this]; done)
          | (simp [hp, hh, rowOf, tabR, widthsOK, subW, hq, hs, Int.reduceToNat, Bool.and_assoc]; exact Bool.and_left_comm _ _ _)
          | skip
theorem pre_node (hn : ∀ (t : T), 0 ≤ t.kind → (∀ u ∈ t.sub, inB u.width 1 64 = true) → nodeOK t = formedN t) : ∀ t : T, (∀ u ∈ t.pre, 0 ≤ u.kind) → t.pre.all nodeOK = t.pre.all formedN := by
  intro t
  induction t using T.ind with
  | h t ih =>
    intro hk
    have hs : t.sub.all (fun u => u.pre.all nodeOK) = t.sub.all (fun u => u.pre.all formedN) := all_congr' fun u hu => ih u hu fun v hv => hk v (by rw [T.pre_eq]; exact List.mem_cons_of_mem _ (mem_pres hu hv))
    rw [T.pre_eq, List.all_cons, List.all_cons, pres_all, pres_all, hs]
    cases hf : t.sub.all (fun u => u.pre.all formedN) with
    | false => simp
    | true =>
      rw [hn t (hk t (by rw [T.pre_eq]; exact List.mem_cons_self)) fun u hu => ?_]
      have h1 := List.all_eq_true.1 hf u hu
      rw [T.pre_eq, List.all_cons, Bool.and_eq_true] at h1
      have h2 := h1.1
      unfold formedN at h2
      cases hw : inB u.width 1 64 with
      | true => rfl
      | false => rw [hw] at h2; simp at h2
theorem formed_width {t : T} (h : t.pre.all formedN = true) : ∀ u ∈ t.pre, inB u.width 1 64 = true := by
  intro u hu
  have h2 := List.all_eq_true.1 h u hu
  unfold formedN at h2
  cases hw : inB u.width 1 64 with
  | true => rfl
  | false => rw [hw] at h2; simp at h2
def aV (m : List (ByteArray × Int)) (n : ByteArray) : Option Int := (aF n m 0).map (·.2)
theorem aF_shift (n : ByteArray) : ∀ (m : List (ByteArray × Int)) (i : Nat), aF n m i = (aF n m 0).map fun p => (p.1 + i, p.2)
  | [], i => rfl
  | (k, w) :: m, i => by
    unfold aF
    by_cases h : n = k
    · simp [h]
    · rw [if_neg h, if_neg h, aF_shift n m (i + 1), aF_shift n m (0 + 1), Option.map_map]
      congr 1
      funext p
      simp only [Function.comp]
      congr 1
      omega
theorem aV_nil (n : ByteArray) : aV [] n = none := rfl
theorem aV_cons (n k : ByteArray) (w : Int) (m : List (ByteArray × Int)) : aV ((k, w) :: m) n = if n = k then some w else aV m n := by
  unfold aV
  rw [aF]
  by_cases h : n = k
  · simp [h]
  · rw [if_neg h, if_neg h, aF_shift, Option.map_map]; rfl
theorem aPut_nil (n : ByteArray) (w : Int) : aPut [] n w = [(n, w)] := rfl
theorem aPut_cons (n k : ByteArray) (w v : Int) (m : List (ByteArray × Int)) : aPut ((k, v) :: m) n w = if n = k then (n, w) :: m else (k, v) :: aPut m n w := by
  unfold aPut
  rw [aF]
  by_cases h : n = k
  · simp [h]
  · rw [if_neg h, if_neg h, aF_shift]
    cases aF n m 0 with
    | none => rfl
    | some p => rfl
theorem aV_put (n k : ByteArray) (w : Int) : ∀ m : List (ByteArray × Int), aV (aPut m k w) n = if n = k then some w else aV m n
  | [] => by rw [aPut_nil, aV_cons]
  | (j, v) :: m => by
    rw [aPut_cons]
    by_cases h : k = j
    · rw [if_pos h, aV_cons, aV_cons]
      subst h
      by_cases h2 : n = k
      · rw [if_pos h2, if_pos h2]
      · rw [if_neg h2, if_neg h2, if_neg h2]
    · rw [if_neg h, aV_cons, aV_put n k w m, aV_cons]
      by_cases h2 : n = j
      · subst h2
        rw [if_pos rfl, if_neg (fun e => h e.symm), if_pos rfl]
      · rw [if_neg h2, if_neg h2]
theorem aGet_eq (m : List (ByteArray × Int)) (n : ByteArray) : aGet m n = (aV m n).getD 0 := rfl
def vBn (us : List T) : List Bn := us.flatMap fun u => if u.kind = 2 then [⟨u.name, u.width, 0⟩] else []
mutual
theorem vars_pre : ∀ t : T, t.vars = vBn t.pre
  | .mk k w b n l s => by
    rw [T.vars_eq, T.pre_eq]
    simp only [T.sub, vBn, List.flatMap_cons]
    rw [varss_pre s]; rfl
theorem varss_pre : ∀ s : List T, T.varss s = vBn (T.pres s)
  | [] => by rw [T.varss, T.pres]; rfl
  | t :: ts => by
    rw [T.varss, pres_cons, vars_pre t, varss_pre ts]
    simp [vBn]
end
theorem varsOK_all (l : List Bn) : ∀ (xs : List Bn) (k : Nat), scOK (scan (tst (okAt l) (fun i _ => i + 1) fun _ _ => ()) k xs) = allI (okAt l) k xs
  | [], k => rfl
  | x :: xs, k => by
    simp only [scan, tst, allI]
    cases okAt l k x with
    | false => rfl
    | true => simp only [if_true, Bool.true_and]; exact varsOK_all l xs (k + 1)
theorem vU_eq (m : List (ByteArray × Int)) (u : T) : vU m u = if u.kind = 2 then aPut m u.name u.width else m := rfl
theorem vT_eq (m : List (ByteArray × Int)) (u : T) : vT m u = if u.kind = 2 then (match aV m u.name with | some w => decide (w = u.width) | none => true) else true := by
  unfold vT aV
  cases aF u.name m 0 with
  | none => rfl
  | some p => rfl
theorem vok_go (l : List Bn) : ∀ (xs : List T) (seen : List Bn) (m : List (ByteArray × Int)), l = seen ++ vBn xs →
    (∀ n, (∀ w, aV m n = some w → (∃ y ∈ seen, y.name = n) ∧ ∀ y ∈ seen, y.name = n → y.width = w) ∧ (aV m n = none → ∀ y ∈ seen, ¬ y.name = n)) →
    scOK (scan (tst vT vU fun m _ => m) m xs) = allI (okAt l) seen.length (vBn xs)
  | [], seen, m, _, _ => rfl
  | u :: xs, seen, m, hl, hm => by
    by_cases hk : u.kind = 2
    · have e1 : vBn (u :: xs) = ⟨u.name, u.width, 0⟩ :: vBn xs := by simp [vBn, hk]
      rw [e1] at hl ⊢
      have htake : l.take seen.length = seen := by rw [hl, List.take_left']; rfl
      have hok : okAt l seen.length ⟨u.name, u.width, 0⟩ = vT m u := by
        unfold okAt
        rw [htake, vT_eq, if_pos hk, Bool.eq_iff_iff, List.all_eq_true]
        simp only [agreeB, Bool.not_eq_true', Bool.and_eq_false_iff, decide_eq_false_iff_not, Bool.not_eq_false', decide_eq_true_eq]
        cases ha : aV m u.name with
        | none =>
          simp only [iff_true]
          exact fun y hy => .inl ((hm u.name).2 ha y hy)
        | some w =>
          obtain ⟨⟨y0, h1, h2⟩, h3⟩ := (hm u.name).1 w ha
          simp only [decide_eq_true_eq]
          constructor
          · intro h
            rcases h y0 h1 with h4 | h4
            · exact (h4 h2).elim
            · rw [← h4, h3 y0 h1 h2]
          · intro h y hy
            by_cases h4 : y.name = u.name
            · exact .inr (by rw [h3 y hy h4, h])
            · exact .inl h4
      simp only [scan, tst, allI, hok]
      cases ht : vT m u with
      | false => rfl
      | true =>
        simp only [if_true, Bool.true_and]
        rw [vok_go l xs (seen ++ [⟨u.name, u.width, 0⟩]) (vU m u) (by rw [hl]; simp) ?_, List.length_append, List.length_singleton]
        intro n
        rw [vU_eq, if_pos hk, aV_put]
        by_cases hn : n = u.name
        · rw [if_pos hn]
          refine ⟨fun w hw => ?_, fun h => by simp at h⟩
          simp only [Option.some.injEq] at hw
          subst hw
          refine ⟨⟨_, List.mem_append_right _ List.mem_cons_self, hn.symm⟩, fun y hy hyn => ?_⟩
          rcases List.mem_append.1 hy with hy | hy
          · rw [vT_eq, if_pos hk] at ht
            cases ha : aV m u.name with
            | none => exact ((hm u.name).2 ha y hy (by rw [hyn, hn])).elim
            | some w =>
              rw [ha] at ht
              simp only [decide_eq_true_eq] at ht
              rw [((hm u.name).1 w ha).2 y hy (by rw [hyn, hn]), ht]
          · simp only [List.mem_singleton] at hy
            rw [hy]
        · rw [if_neg hn]
          refine ⟨fun w hw => ?_, fun h y hy => ?_⟩
          · obtain ⟨⟨y0, h1, h2⟩, h3⟩ := (hm n).1 w hw
            refine ⟨⟨y0, List.mem_append_left _ h1, h2⟩, fun y hy hyn => ?_⟩
            rcases List.mem_append.1 hy with hy | hy
            · exact h3 y hy hyn
            · simp only [List.mem_singleton] at hy
              subst hy
              exact (hn hyn.symm).elim
          · rcases List.mem_append.1 hy with hy | hy
            · exact (hm n).2 h y hy
            · simp only [List.mem_singleton] at hy
              subst hy
              exact fun e => hn e.symm
    · have e1 : vBn (u :: xs) = vBn xs := by simp [vBn, hk]
      have e2 : vT m u = true := by rw [vT_eq, if_neg hk]
      have e3 : vU m u = m := by rw [vU_eq, if_neg hk]
      rw [e1] at hl ⊢
      simp only [scan, tst, e2, if_true, e3]
      exact vok_go l xs seen m hl hm
theorem vok_eq (t : T) : vok t = varsOK t.vars := by
  unfold vok vScan varsOK
  rw [varsOK_all, vars_pre]
  exact vok_go _ t.pre [] [] rfl fun n => ⟨fun w hw => by simp [aV_nil] at hw, fun _ y hy => by simp at hy⟩
theorem chkT_eq {t : T} (hk : ∀ u ∈ t.pre, 0 ≤ u.kind) : chkT t = chk02 t := by
  unfold chkT chk02
  rw [pre_node node_eq t hk, ← formed_pre, vok_eq]
  cases decide (400 < (t.size : Int)) <;> cases decide (60 < (t.depth : Int)) <;> rfl
theorem chk02_formed {t : T} (h : chk02 t = 0) : t.pre.all formedN = true := by
  rw [← formed_pre]
  unfold chk02 at h
  cases h1 : (decide (400 < (t.size : Int)) || decide (60 < (t.depth : Int))) with
  | true => rw [h1] at h; simp at h
  | false =>
    rw [h1] at h
    cases h2 : t.formed with
    | true => rfl
    | false => rw [h2] at h; simp at h
end Go.Proofs.Dv
set_option linter.unusedVariables false
set_option linter.unusedSimpArgs false
namespace Go.Proofs.Dv
open Go.RowKit
open Nat renaming reduceEqDiff → zA, reduceAdd → zB, reduceSub → zC, reduceLeDiff → zD, reduceLT → zE, reduceMul → zF
open Int renaming reduceToNat → zG, reduceLE → zH, reduceLT → zI
open List renaming set_cons_zero → zJ, set_cons_succ → zK
theorem aV_fold {α : Type} (f : α → ByteArray) (g : α → Int) (n : ByteArray) : ∀ (xs : List α) (vs : List (ByteArray × Int)), xs.Pairwise (fun x y => ¬ f x = f y) →
    aV (xs.foldl (fun vs x => aPut vs (f x) (g x)) vs) n = match xs.find? (fun x => decide (f x = n)) with | some x => some (g x) | none => aV vs n
  | [], vs, _ => rfl
  | x :: xs, vs, h => by
    rw [List.pairwise_cons] at h
    rw [List.foldl_cons, aV_fold f g n xs _ h.2, List.find?_cons]
    by_cases hx : f x = n
    · have : xs.find? (fun x => decide (f x = n)) = none := by
        rw [List.find?_eq_none]
        intro y hy
        have := h.1 y hy
        simp only [decide_eq_true_eq]
        rw [← hx]
        exact fun e => this e.symm
      rw [this, decide_eq_true hx]
      simp only [aV_put, if_pos hx.symm]
    · rw [decide_eq_false hx]
      cases xs.find? (fun x => decide (f x = n)) with
      | some y => rfl
      | none => simp only [aV_put, if_neg (fun e => hx (Eq.symm e))]
theorem pair_names {α : Type} (f : α → ByteArray) (l : List α) (h : ∀ j x, l[j]? = some x → (l.take j).all (fun q => !decide (f q = f x)) = true) : l.Pairwise (fun x y => ¬ f x = f y) := by
  rw [List.pairwise_iff_getElem]
  intro i j hi hj hij
  have := List.all_eq_true.1 (h j l[j] (List.getElem?_eq_getElem hj)) l[i] (List.mem_take_iff_getElem.2 ⟨i, by omega, rfl⟩)
  simpa using this
theorem regs_pair {m : Mc} (h : regsR m = true) : m.regs.Pairwise (fun x y => ¬ x.name = y.name) := by
  refine pair_names Rg.name _ fun j x hx => ?_
  simp only [regsR, Bool.and_eq_true] at h
  have h1 := allI_get m.regs 0 h.1 j x hx
  simp only [Nat.zero_add, rgAt, Bool.and_eq_true] at h1
  exact h1.2.1
theorem ops_get {m : Mc} {i : Ins} (h : opsR m i = true) {j : Nat} {o : Opn} (ho : i.operands[j]? = some o) : opR m i j o = true := by
  rw [opsR_eq] at h
  have := allI_get _ _ h j o ho
  rwa [Nat.zero_add] at this
theorem ops_pair {m : Mc} {i : Ins} (h : opsR m i = true) : i.operands.Pairwise (fun x y => ¬ x.name = y.name) := by
  refine pair_names Opn.name _ fun j x hx => ?_
  have := ops_get h hx
  simp only [opR, Bool.and_eq_true] at this
  exact this.2.1
theorem ops_pc {m : Mc} {i : Ins} (h : opsR m i = true) : ∀ o ∈ i.operands, ¬ o.name = strK [112, 99] := by
  intro o ho
  obtain ⟨j, hj⟩ := List.mem_iff_getElem?.1 ho
  have := ops_get h hj
  simp only [opR, opHead, Bool.and_eq_true, Bool.not_eq_true', decide_eq_false_iff_not] at this
  exact this.1.1.2
theorem rdot_pc (x : ByteArray) : ¬ strK [114, 46] ++ x = strK [112, 99] := by
  intro h
  have h1 := congrArg (fun b : ByteArray => b.data.toList) h
  simp [strK] at h1
theorem app_inj {p x y : ByteArray} (h : p ++ x = p ++ y) : x = y := by
  have h1 := congrArg (fun b : ByteArray => b.data.toList) h
  simp only [ByteArray.data_append, Array.toList_append, List.append_cancel_left_eq] at h1
  cases x; cases y
  simp only at h1
  congr 1
  exact Array.toList_inj.1 h1
theorem var_eq {m : Mc} {i : Ins} {n : ByteArray} {w : Int} (hr : regsR m = true) (ho : opsR m i = true) (hw : inB w 1 64 = true) : decide (aGet (varsM m i) n = w) = vrR m i n w := by
  have h1 : aV (varsM m i) n = match i.operands.find? (fun o => decide (o.name = n)) with
      | some o => some ((wideO m o).getD 0)
      | none => match m.regs.find? (fun r => decide (strK [114, 46] ++ r.name = n)) with
        | some r => some r.width
        | none => if n = strK [112, 99] then some m.address else none := by
    unfold varsM
    rw [aV_fold Opn.name (fun o => (wideO m o).getD 0) n _ _ (ops_pair ho), aV_fold (fun r : Rg => strK [114, 46] ++ r.name) Rg.width n _ _ ((regs_pair hr).imp fun h e => h (app_inj e)), aV_put, aV_nil]
    cases i.operands.find? (fun o => decide (o.name = n)) with
    | some o => rfl
    | none => cases m.regs.find? (fun r => decide (strK [114, 46] ++ r.name = n)) <;> rfl
  rw [aGet_eq, h1]
  unfold vrR
  have hw1 := (inB64.1 hw).1
  by_cases hn : n = strK [112, 99]
  · have e1 : i.operands.find? (fun o => decide (o.name = n)) = none := by
      rw [List.find?_eq_none]
      intro o hom
      simp only [decide_eq_true_eq, hn]
      exact ops_pc ho o hom
    have e2 : m.regs.find? (fun r => decide (strK [114, 46] ++ r.name = n)) = none := by
      rw [List.find?_eq_none]
      intro r _
      simp only [decide_eq_true_eq, hn]
      exact rdot_pc _
    rw [e1, e2, decide_eq_true hn, cond_true]
    simp only [if_pos hn, Option.getD_some]
    exact deq_comm
  · rw [decide_eq_false hn, cond_false]
    cases i.operands.find? (fun o => decide (o.name = n)) with
    | some o => exact deq_comm
    | none =>
      simp only
      cases m.regs.find? (fun r => decide (strK [114, 46] ++ r.name = n)) with
      | some r => exact deq_comm
      | none =>
        simp only [if_neg hn, Option.getD_none]
        exact decide_eq_false (by omega)
theorem fit_eq {m : Mc} {i : Ins} (hr : regsR m = true) (ho : opsR m i = true) {t : T} (hk : ∀ u ∈ t.pre, 0 ≤ u.kind) : fitB m (varsM m i) t = fitR m i t := by
  unfold fitB fitR
  rw [chkT_eq hk]
  cases hc : decide (chk02 t = 0) with
  | false => rfl
  | true =>
    rw [Bool.true_and, Bool.true_and]
    have hw := formed_width (chk02_formed (of_decide_eq_true hc))
    unfold lvOK knownR
    refine all_congr' fun u hu => ?_
    unfold leafB leafR
    by_cases h2 : u.kind = 2
    · rw [if_pos h2, if_pos h2]
      exact var_eq hr ho (hw u hu)
    · rw [if_neg h2, if_neg h2]
theorem eff_eq {m : Mc} {i : Ins} (hr : regsR m = true) (ho : opsR m i = true) {e : Ef} (t1 : TOK e.addr) (t2 : TOK e.value) (t3 : TOK e.cond) : effOK m i (varsM m i) e = effR m i e := by
  have f1 := fit_eq hr ho t1.2.2.1
  have f2 := fit_eq hr ho t2.2.2.1
  have f3 := fit_eq hr ho t3.2.2.1
  unfold effOK effR
  by_cases k1 : e.kind = 1
  · simp only [effB, effW, effR1, k1, if_true, decide_true, Bool.true_or, Bool.true_and, f2]
    by_cases h1 : e.operand = -1
    · rw [h1]
      have h2 : inB (-1) 0 (IntKind.i64.wrap ((i.operands.length : Int) - 1)) = false := rfl
      cases inB e.reg 0 (IntKind.i64.wrap ((m.regs.length : Int) - 1)) <;> cases zeroT e.addr <;> cases zeroT e.cond <;> cases fitR m i e.value <;> simp [h2]
    · cases inB e.operand 0 (IntKind.i64.wrap ((i.operands.length : Int) - 1)) <;> cases zeroT e.addr <;> cases zeroT e.cond <;> cases fitR m i e.value <;> cases decide (e.reg = 0) <;> simp [h1]
      cases i.operands[e.operand.toNat]? <;> rfl
  · have k1' : decide (e.kind = 1) = false := decide_eq_false k1
    by_cases k2 : e.kind = 2
    · simp only [effB, effS, effR2, k1, k2, if_true, if_false, f1, f2, k1', Bool.false_or]
      have hh : has e.value.width [8, 16, 32, 64] = (decide (e.value.width = 8) || (decide (e.value.width = 16) || (decide (e.value.width = 32) || decide (e.value.width = 64)))) := by
        simp [has]
      rw [hh]
      simp only [Int.reduceEq, decide_false, Bool.false_or]
      cases decide (e.operand = 0) <;> cases decide (e.reg = 0) <;> cases zeroT e.cond <;> cases fitR m i e.addr <;> cases fitR m i e.value <;> simp
    · by_cases k3 : e.kind = 3
      · simp only [effB, effJ, effR3, k1, k2, k3, if_true, if_false, f1, f2, f3, k1', Bool.false_or]
        simp only [Int.reduceEq, decide_false, Bool.false_or, if_false]
        cases decide (e.operand = 0) <;> cases decide (e.reg = 0) <;> cases zeroT e.addr <;> cases fitR m i e.value <;> simp
      · by_cases k4 : e.kind = 4
        · simp only [effB, effR4, k4, if_true, if_false, f2]
          simp only [Int.reduceEq, decide_false, Bool.false_or, if_false]
          cases decide (e.operand = 0) <;> cases decide (e.reg = 0) <;> cases zeroT e.addr <;> cases zeroT e.cond <;> cases fitR m i e.value <;> simp
        · simp only [effB, k1, k2, k3, k4, if_false, Bool.and_false]
theorem bF_shift (n : Int) : ∀ (m : List (Int × Int)) (i : Nat), bF n m i = (bF n m 0).map fun p => (p.1 + i, p.2)
  | [], i => rfl
  | (k, w) :: m, i => by
    unfold bF
    by_cases h : n = k
    · simp [h]
    · rw [if_neg h, if_neg h, bF_shift n m (i + 1), bF_shift n m (0 + 1), Option.map_map]
      congr 1
      funext p
      simp only [Function.comp]
      congr 1
      omega
theorem bGet_cons (n k w : Int) (m : List (Int × Int)) : bGet ((k, w) :: m) n = if n = k then w else bGet m n := by
  unfold bGet
  rw [bF]
  by_cases h : n = k
  · simp [h]
  · rw [if_neg h, if_neg h, bF_shift, Option.map_map]; rfl
theorem bPut_cons (n k w v : Int) (m : List (Int × Int)) : bPut ((k, v) :: m) n w = if n = k then (n, w) :: m else (k, v) :: bPut m n w := by
  unfold bPut
  rw [bF]
  by_cases h : n = k
  · simp [h]
  · rw [if_neg h, if_neg h, bF_shift]
    cases bF n m 0 with
    | none => rfl
    | some p => rfl
theorem bGet_put (n k w : Int) : ∀ m : List (Int × Int), bGet (bPut m k w) n = if n = k then w else bGet m n
  | [] => by
    show bGet [(k, w)] n = _
    rw [bGet_cons]
  | (j, v) :: m => by
    rw [bPut_cons]
    by_cases h : k = j
    · rw [if_pos h, bGet_cons, bGet_cons]
      subst h
      by_cases h2 : n = k
      · rw [if_pos h2, if_pos h2]
      · rw [if_neg h2, if_neg h2, if_neg h2]
    · rw [if_neg h, bGet_cons, bGet_put n k w m, bGet_cons]
      by_cases h2 : n = j
      · subst h2
        rw [if_pos rfl, if_neg (fun e => h e.symm), if_pos rfl]
      · rw [if_neg h2, if_neg h2]
theorem cnt_go (k : Int) : ∀ (es : List Ef) (c : List (Int × Int)), bGet (es.foldl (fun c e => bPut c e.kind (IntKind.i64.wrap (bGet c e.kind + 1))) c) k = es.foldl (kndF k) (bGet c k)
  | [], c => rfl
  | e :: es, c => by
    rw [List.foldl_cons, cnt_go k es, List.foldl_cons, bGet_put]
    unfold kndF
    by_cases h : e.kind = k
    · rw [if_pos h.symm, if_pos h, h]
    · rw [if_neg (fun e => h e.symm), if_neg h]
theorem cnt_eq (k : Int) (es : List Ef) : bGet (cntE es) k = kndN k es := cnt_go k es []
theorem knd_bound (k : Int) : ∀ (es : List Ef) (n : Nat), n + es.length ≤ 1000000 → ∃ r : Nat, es.foldl (kndF k) (n : Int) = (r : Int) ∧ r ≤ n + es.length
  | [], n, _ => ⟨n, rfl, by simp⟩
  | e :: es, n, h => by
    simp only [List.length_cons] at h
    rw [List.foldl_cons]
    unfold kndF
    by_cases hk : e.kind = k
    · rw [if_pos hk, wr _ (by omega) (by omega)]
      obtain ⟨r, h1, h2⟩ := knd_bound k es (n + 1) (by omega)
      exact ⟨r, h1, by simp only [List.length_cons]; omega⟩
    · rw [if_neg hk]
      obtain ⟨r, h1, h2⟩ := knd_bound k es n (by omega)
      exact ⟨r, h1, by simp only [List.length_cons]; omega⟩
theorem tail_eq {m : Mc} {i : Ins} (he : i.effects.length ≤ 1000) : insTail m i = (!(decide (1 < kndN 3 i.effects) || (decide (0 < kndN 4 i.effects) && decide (1 < (i.effects.length : Int)))) && tailR m i) := by
  unfold insTail tailR
  rw [cnt_eq, cnt_eq, ← Bool.and_assoc]
  congr 1
  obtain ⟨r, h1, h2⟩ := knd_bound 4 i.effects 0 (by omega)
  have h3 : kndN 4 i.effects = (r : Int) := h1
  rw [h3, Bool.eq_iff_iff]
  simp only [Bool.and_eq_true, Bool.or_eq_true, decide_eq_true_eq, Bool.not_eq_true', Bool.or_eq_false_iff, Bool.and_eq_false_iff, decide_eq_false_iff_not]
  omega
theorem ins_eq {m : Mc} {i : Ins} (hw : inB m.word 1 4 = true) (hr : regsR m = true) (hM : 0 ≤ i.mask ∧ i.mask < 18446744073709551616) (hN : 0 ≤ i.match_ ∧ i.match_ < 18446744073709551616) (hz : InsZ i) (ok : Bool) : insOK m i ok = (ok && insR m i) := by
  unfold insOK insR
  rw [ops_eq hw hM hN hz.1 hz.2.2.1 ok, tail_eq hz.2.1]
  cases ho : opsR m i with
  | false => simp
  | true =>
    rw [all_congr' fun e he => eff_eq hr ho (hz.2.2.2 e he).1 (hz.2.2.2 e he).2.1 (hz.2.2.2 e he).2.2]
    simp only [Bool.and_assoc, Bool.true_and]
theorem head_eq (m : Mc) : headOK m = headR m := by
  unfold headOK headR
  rw [regs_eq, banks_eq, units_eq]
  simp only [Bool.and_assoc]
theorem chk_eq {m : Mc} (hz : MZ m) (ht : ∀ i ∈ m.instrs, ∀ e ∈ i.effects, TOK e.addr ∧ TOK e.value ∧ TOK e.cond) : chkM m = chkR m := by
  unfold chkM chkR
  cases hs : smallOK m with
  | false => rfl
  | true =>
    simp only [Bool.not_true, cond_false]
    congr 1
    unfold machOK
    rw [head_eq]
    cases hh : headR m with
    | false => rw [insF_false]; rfl
    | true =>
      have hsz := hs
      simp only [smallOK, Bool.and_eq_true, List.all_eq_true] at hsz
      obtain ⟨_, _, z6⟩ := hsz
      have zi : ∀ i ∈ m.instrs, InsZ i := by
        intro i hi
        have := z6 i hi
        simp only [smI, Bool.and_eq_true, List.all_eq_true] at this
        obtain ⟨⟨a1, a2⟩, a3⟩ := this
        have a1 := fewB_le a1
        have a2 := fewB_le a2
        exact ⟨by omega, by omega, fun o ho => by have := fewB_le (a3 o ho); omega, ht i hi⟩
      simp only [headR, Bool.and_eq_true] at hh
      obtain ⟨_, hw, _, hr, _⟩ := hh
      have hfold : ∀ (l : List Ins) (a : Bool × List ByteArray), (∀ i ∈ l, i ∈ m.instrs) → l.foldl (insF m) a = l.foldl (fun (a : Bool × List ByteArray) i => (a.1 && (freshB a.2 i.name && insR m i), a.2 ++ [Ins.name i])) a := by
        intro l
        induction l with
        | nil => intro a _; rfl
        | cons i l ih =>
          intro a hl
          have hi := hl i List.mem_cons_self
          rw [List.foldl_cons, List.foldl_cons, ih _ fun j hj => hl j (List.mem_cons_of_mem _ hj)]
          congr 1
          unfold insF
          rw [ins_eq hw hr (hz i hi).1 (hz i hi).2.1 (zi i hi), Bool.and_assoc]
      have := fold_names Ins.name (fun ns i => freshB ns i.name && insR m i) m.instrs m.instrs [] true rfl
      simp only [List.map_nil, List.length_nil, Bool.true_and] at this
      rw [hfold _ _ fun _ h => h, this, Bool.true_and]
      refine allI_congr _ _ (fun j i _ => ?_)
      simp only [insAt, freshB, has_map]
      cases nameOK i.name <;> cases insR m i <;> simp
end Go.Proofs.Dv
set_option linter.unusedVariables false
set_option linter.unusedSimpArgs false
namespace Go.Proofs.Dv
open Go.RowKit
mutual
def toD {H : Type} : DataW H → List D
  | .lit (.bool b) => [.v (.bool b)]
  | .lit (.int k n) => [.v (.int k n)]
  | .lit (.string bs) => [.v (.string ⟨bs.toArray⟩)]
  | .lit _ => [.junk]
  | .nil => [.lst false []]
  | .slice els _ => [.lst false (toDs els)]
  | .agg ps => toDf ps
  | _ => [.junk]
def toDs {H : Type} : List (DataW H) → List (List D)
  | [] => []
  | d :: ds => toD d :: toDs ds
def toDf {H : Type} : List (DataW H) → List D
  | [] => []
  | d :: ds => toD d ++ toDf ds
end
theorem toDs_map {H : Type} : ∀ l : List (DataW H), toDs l = l.map toD
  | [] => by rw [toDs]; rfl
  | d :: ds => by rw [toDs, toDs_map ds]; rfl
def tiles (P : Program) (ok : TypeId → Bool) : List Field → Nat → Nat → Bool
  | [], off, n => off == n
  | f :: fs, off, n => f.offset == off && ok f.type && tiles P ok fs (off + P.cellsOf f.type) n
def goodT (P : Program) (ok : TypeId → Bool) (t : TypeId) : Bool :=
  match P.underlying t with
  | some .bool => P.cellsOf t == 1
  | some (.int _) => P.cellsOf t == 1
  | some .string => P.cellsOf t == 1
  | some (.slice e) => P.cellsOf t == 1 && ok e && decide (0 < P.cellsOf e)
  | some (.struct fs) => tiles P ok fs.toList 0 (P.cellsOf t)
  | _ => false
inductive Sh where
  | bool | int (k : IntKind) | str | sl (e : TypeId) | st (ts : List TypeId) | no
  deriving DecidableEq
def shOf (P : Program) (t : TypeId) : Sh :=
  match P.underlying t with
  | some .bool => .bool
  | some (.int k) => .int k
  | some .string => .str
  | some (.slice e) => .sl e
  | some (.struct fs) => .st (fs.toList.map fun f => f.type)
  | _ => .no
def Ty (P : Program) : Nat → TypeId → List D → Prop
  | 0, _, _ => False
  | n + 1, t, ds =>
    match shOf P t with
    | .bool => ∃ b, ds = [.v (.bool b)]
    | .int k => ∃ x, ds = [.v (.int k x)] ∧ k.min ≤ x ∧ x ≤ k.max
    | .str => ∃ s, ds = [.v (.string s)] ∧ s.size ≤ maxLen
    | .sl e => ∃ es, ds = [.lst false es] ∧ ∀ x ∈ es, Ty P n e x
    | .st ts => go n ts ds
    | .no => False
where
  go (n : Nat) : List TypeId → List D → Prop
  | [], ds => ds = []
  | t :: ts, ds => ∃ x r, ds = x ++ r ∧ Ty P n t x ∧ go n ts r
def S0 (w : World) : Nat → Nat → Prop := fun b _ => b < w.heap.size
def CellsR (w : World) (cs : List Value) (ds : List D) : Prop := cs.length = ds.length ∧ ∀ j (hj : j < ds.length), ∃ c, cs[j]? = some c ∧ c.oneCell' = true ∧ Rd w (S0 w) none ds[j] c
theorem CellsR.one {w : World} {c : Value} {d : D} (h1 : c.oneCell' = true) (h2 : Rd w (S0 w) none d c) : CellsR w [c] [d] := by
  refine ⟨rfl, fun j hj => ?_⟩
  simp only [List.length_singleton] at hj
  obtain rfl : j = 0 := by omega
  exact ⟨c, rfl, h1, h2⟩
theorem CellsR.append {w : World} {cs cs' : List Value} {ds ds' : List D} (h : CellsR w cs ds) (h' : CellsR w cs' ds') : CellsR w (cs ++ cs') (ds ++ ds') := by
  refine ⟨by simp [h.1, h'.1], fun j hj => ?_⟩
  by_cases hlt : j < ds.length
  · obtain ⟨c, c1, c2, c3⟩ := h.2 j hlt
    refine ⟨c, by rw [List.getElem?_append_left (by rw [h.1]; exact hlt)]; exact c1, c2, ?_⟩
    rw [List.getElem_append_left hlt]; exact c3
  · obtain ⟨c, c1, c2, c3⟩ := h'.2 (j - ds.length) (by simp only [List.length_append] at hj; omega)
    refine ⟨c, by rw [List.getElem?_append_right (by rw [h.1]; omega), h.1]; exact c1, c2, ?_⟩
    rw [List.getElem_append_right (by omega)]; exact c3
section
variable {H : Type} {enc : TypeId × Value → H} {P : Program} {w : World} {ok : TypeId → Bool} {held : Bool}
theorem mapM_get {α β : Type} {g : α → Option β} : ∀ {l : List α} {r : List β}, l.mapM g = some r → r.length = l.length ∧ ∀ i (h : i < l.length), ∃ y, r[i]? = some y ∧ g l[i] = some y
  | [], r, h => by simp at h; subst h; exact ⟨rfl, fun i hi => by simp at hi⟩
  | x :: l, r, h => by
    simp only [List.mapM_cons, Option.bind_eq_bind, Option.pure_def, Option.bind_eq_some_iff, Option.some.injEq] at h
    obtain ⟨y, h1, ys, h2, rfl⟩ := h
    obtain ⟨h3, h4⟩ := mapM_get h2
    refine ⟨by simp [h3], fun i hi => ?_⟩
    cases i with
    | zero => exact ⟨y, rfl, h1⟩
    | succ i => obtain ⟨z, z1, z2⟩ := h4 i (by simpa using hi); exact ⟨z, by simpa using z1, by simpa using z2⟩
theorem cells_get {a : Addr} {n : Nat} {cs : List Value} (h : w.cells? 0 a n = some cs) : cs.length = n ∧ ∀ i, i < n → ∃ c, cs[i]? = some c ∧ w.cell? (a.add i) = some c := by
  unfold World.cells? at h
  rw [if_pos (Nat.zero_le _)] at h
  obtain ⟨h1, h2⟩ := mapM_get h
  refine ⟨by simpa using h1, fun i hi => ?_⟩
  obtain ⟨y, y1, y2⟩ := h2 i (by simpa using hi)
  rw [List.getElem_range] at y2
  exact ⟨y, y1, y2⟩
theorem cell_ltu {a : Addr} {c : Value} (h : w.cell? a = some c) : a.block < w.heap.size ∧ a.spot = none := by
  unfold World.cell? at h
  cases hb : w.heap[a.block]? with
  | none => rw [hb] at h; simp at h
  | some o =>
    refine ⟨(Array.getElem?_eq_some_iff.1 hb).1, ?_⟩
    rw [hb] at h
    cases o with
    | cells c t f =>
      simp only at h
      cases hs : a.spot with
      | none => rfl
      | some s => rw [hs] at h; simp at h
    | _ => simp at h
theorem trod_rd (hok : ∀ t, ok t = true → goodT P ok t = true) : ∀ (fuel : Nat) (t : TypeId) (cs : List Value) (d : DataW H) (ps : List MemPlace), ok t = true → DataW.trod enc P w 0 (fun _ => true) held fuel t cs = some (d, ps) →
    CellsR w cs (toD d) ∧ cs.length = P.cellsOf t ∧ Ty P fuel t (toD d) := by
  intro fuel
  induction fuel with
  | zero => intro t cs d ps _ h; simp [DataW.trod] at h
  | succ fuel ih =>
    intro t cs d ps ht h
    have hg := hok t ht
    unfold goodT at hg
    split at hg
    · rename_i hu
      simp only [beq_iff_eq] at hg
      obtain ⟨b, rfl, hx⟩ := DataW.trod_bool hu h
      simp only [Prod.mk.injEq] at hx
      obtain ⟨rfl, rfl⟩ := hx
      refine ⟨CellsR.one rfl (Rd_v.2 ⟨rfl, rfl⟩), by simp [hg], ?_⟩
      rw [Ty, shOf, hu]; exact ⟨b, rfl⟩
    · rename_i k hu
      simp only [beq_iff_eq] at hg
      obtain ⟨n, rfl, hx, hw⟩ := DataW.trod_int hu h
      simp only [Prod.mk.injEq] at hx
      obtain ⟨rfl, rfl⟩ := hx
      refine ⟨CellsR.one rfl (Rd_v.2 ⟨rfl, rfl⟩), by simp [hg], ?_⟩
      rw [Ty, shOf, hu]
      simp only [Lit.wf, Bool.and_eq_true, decide_eq_true_eq] at hw
      exact ⟨n, rfl, hw⟩
    · rename_i hu
      simp only [beq_iff_eq] at hg
      obtain ⟨s, rfl, hx, hw⟩ := DataW.trod_string hu h
      simp only [Prod.mk.injEq] at hx
      obtain ⟨rfl, rfl⟩ := hx
      refine ⟨CellsR.one rfl (Rd_v.2 ⟨rfl, rfl⟩), by simp [hg], ?_⟩
      rw [Ty, shOf, hu]
      exact ⟨s, rfl, hw⟩
    · rename_i e hu
      simp only [Bool.and_eq_true, beq_iff_eq, decide_eq_true_eq] at hg
      obtain ⟨⟨g1, g2⟩, g3⟩ := hg
      rcases DataW.trod_slice hu h with ⟨rfl, hx⟩ | ⟨a, len, cap, elems, rest, n, hn, rfl, hx, _, q1, q2, q3, q4, _, _⟩
      · simp only [Prod.mk.injEq] at hx
        obtain ⟨rfl, rfl⟩ := hx
        refine ⟨CellsR.one rfl (Rd_lst.2 ⟨none, 0, 0, rfl, Nat.le_refl _, Nat.zero_le _, fun h => by simp at h, fun e he => by simp at he, fun h => by simp at h⟩), by simp [g1], ?_⟩
        rw [Ty, shOf, hu]
        exact ⟨[], rfl, fun x hx => by simp at hx⟩
      · simp only [Prod.mk.injEq] at hx
        obtain ⟨rfl, rfl⟩ := hx
        obtain rfl : fuel = n := by omega
        have hel : ∀ i (hi : i < elems.length), ∃ cs', w.cells? 0 (a.add (i * P.cellsOf e)) (P.cellsOf e) = some cs' ∧ CellsR w cs' (toD elems[i].1) ∧ cs'.length = P.cellsOf e ∧ Ty P fuel e (toD elems[i].1) := by
          intro i hi
          have h1 := q4 i (by omega)
          rw [List.getElem?_eq_getElem hi, Option.bind_eq_some_iff] at h1
          obtain ⟨cs', h2, h3⟩ := h1
          exact ⟨cs', h2, ih e cs' elems[i].1 elems[i].2 g2 h3⟩
        have hD : toD (DataW.slice (elems.map (·.1)) (rest.map (·.1))) = [.lst false (elems.map fun x => toD x.1)] := by
          rw [toD, toDs_map, List.map_map]; rfl
        rw [hD]
        refine ⟨CellsR.one rfl (Rd_lst.2 ⟨some a, cap, P.cellsOf e, by simp [q3], by simpa [q3] using q1, q2, fun h => by simp at h, ?_, fun hp => ?_⟩), by simp [g1], ?_⟩
        · intro x hx
          obtain ⟨i, hi, rfl⟩ := List.mem_iff_getElem.1 hx
          simp only [List.length_map] at hi
          obtain ⟨cs', _, h2, h3, _⟩ := hel i hi
          rw [List.getElem_map, ← h2.1, h3]
        · simp only [List.length_map] at hp
          have hsp : a.spot = none := by
            obtain ⟨cs', h1, h2, h3, _⟩ := hel 0 hp
            obtain ⟨_, h4⟩ := cells_get h1
            obtain ⟨c, _, h5⟩ := h4 0 g3
            have := (cell_ltu h5).2
            simpa [Addr.add] using this
          obtain ⟨b, o, sp⟩ := a
          simp only at hsp
          subst hsp
          refine ⟨b, o, rfl, fun i hi j hj => ?_⟩
          simp only [List.length_map] at hi
          obtain ⟨cs', h1, h2, h3, _⟩ := hel i hi
          rw [List.getElem_map] at hj
          obtain ⟨c, c1, c2, c3⟩ := h2.2 j hj
          obtain ⟨_, h4⟩ := cells_get h1
          obtain ⟨c', c4, c5⟩ := h4 j (by rw [← h3, h2.1]; exact hj)
          rw [c1] at c4
          simp only [Option.some.injEq] at c4
          subst c4
          have e1 : w.cell? ⟨b, o + (i * P.cellsOf e + j), none⟩ = some c := by
            rw [add_none, add_none, Nat.add_assoc] at c5; exact c5
          refine ⟨c, e1, (cell_ltu e1).1, c2, ?_⟩
          simp only [List.getElem_map]
          exact c3
        · rw [Ty, shOf, hu]
          refine ⟨_, rfl, fun x hx => ?_⟩
          obtain ⟨i, hi, rfl⟩ := List.mem_iff_getElem.1 hx
          simp only [List.length_map] at hi
          obtain ⟨cs', _, _, _, h4⟩ := hel i hi
          rw [List.getElem_map]; exact h4
    · rename_i fs hu
      obtain ⟨xs, n, hn, hx, hl, hxl, hf⟩ := DataW.trod_struct hu h
      simp only [Prod.mk.injEq] at hx
      obtain ⟨rfl, rfl⟩ := hx
      obtain rfl : fuel = n := by omega
      have key : ∀ (l : List Field) (ys : List (DataW H × List MemPlace)) (off : Nat), tiles P ok l off (P.cellsOf t) = true → l.length = ys.length →
          (∀ (i : Nat) (f : Field), l[i]? = some f → DataW.trod enc P w 0 (fun _ => true) held fuel f.type ((cs.drop f.offset).take (P.cellsOf f.type)) = ys[i]?) →
          CellsR w (cs.drop off) (toDf (ys.map (·.1))) ∧ Ty.go P fuel (l.map fun (f : Field) => f.type) (toDf (ys.map (·.1))) := by
        intro l
        induction l with
        | nil =>
          intro ys off ht hl' _
          simp only [List.length_nil] at hl'
          obtain rfl := List.eq_nil_of_length_eq_zero hl'.symm
          simp only [tiles, beq_iff_eq] at ht
          refine ⟨?_, ?_⟩
          · rw [List.map_nil, toDf, List.drop_of_length_le (by omega)]
            exact ⟨rfl, fun j hj => by simp at hj⟩
          · rw [List.map_nil, List.map_nil, Ty.go, toDf]
        | cons f l ihl =>
          intro ys off ht hl' hf'
          cases ys with
          | nil => simp at hl'
          | cons y ys =>
            simp only [tiles, Bool.and_eq_true, beq_iff_eq] at ht
            obtain ⟨⟨t1, t2⟩, t3⟩ := ht
            have h0 := hf' 0 f rfl
            simp only [List.getElem?_cons_zero] at h0
            obtain ⟨r1, r2, r3⟩ := ih f.type _ y.1 y.2 t2 h0
            obtain ⟨r4, r5⟩ := ihl ys _ t3 (by simpa using hl') fun i g hg => by simpa using hf' (i + 1) g (by simpa using hg)
            rw [List.map_cons, toDf]
            refine ⟨?_, by rw [List.map_cons, Ty.go]; exact ⟨_, _, rfl, r3, r5⟩⟩
            have := CellsR.append r1 r4
            rw [t1] at this
            have e1 : (cs.drop off).take (P.cellsOf f.type) ++ cs.drop (off + P.cellsOf f.type) = cs.drop off := by
              rw [← List.drop_drop, List.take_append_drop]
            rwa [e1] at this
      obtain ⟨k1, k2⟩ := key fs.toList xs 0 hg (by simp [hxl]) fun i f hi => hf i f (by simpa using hi)
      rw [List.drop_zero] at k1
      rw [toD]
      refine ⟨k1, hl, ?_⟩
      rw [Ty, shOf, hu]
      exact k2
    · simp at hg
theorem trod_arr (hok : ∀ t, ok t = true → goodT P ok t = true) {fuel : Nat} {t e : TypeId} {n : Nat} {cs : List Value} {d : DataW H} {ps : List MemPlace} (hu : P.underlying t = some (.array n e)) (he : ok e = true) (hc : P.cellsOf t = n * P.cellsOf e)
    (h : DataW.trod enc P w 0 (fun _ => true) held fuel t cs = some (d, ps)) : CellsR w cs (toD d) := by
  obtain ⟨xs, m, _, hx, hl, hxl, hf⟩ := DataW.trod_array hu h
  simp only [Prod.mk.injEq] at hx
  obtain ⟨rfl, rfl⟩ := hx
  rw [toD]
  have key : ∀ (k : Nat) (ys : List (DataW H × List MemPlace)), ys.length = k → (∀ i, i < k → DataW.trod enc P w 0 (fun _ => true) held m e ((cs.drop ((n - k + i) * P.cellsOf e)).take (P.cellsOf e)) = ys[i]?) → k ≤ n → CellsR w (cs.drop ((n - k) * P.cellsOf e)) (toDf (ys.map (·.1))) := by
    intro k
    induction k with
    | zero =>
      intro ys hy _ _
      obtain rfl := List.eq_nil_of_length_eq_zero hy
      rw [List.map_nil, toDf, List.drop_of_length_le (by rw [hl, hc, Nat.sub_zero]; exact Nat.le_refl _)]
      exact ⟨rfl, fun j hj => by simp at hj⟩
    | succ k ih =>
      intro ys hy hf' hk
      cases ys with
      | nil => simp at hy
      | cons y ys =>
        have h0 := hf' 0 (by omega)
        simp only [List.getElem?_cons_zero, Nat.add_zero] at h0
        obtain ⟨r1, r2, _⟩ := trod_rd hok m e _ y.1 y.2 he h0
        have r3 := ih ys (by simpa using hy) (fun i hi => by
          have := hf' (i + 1) (by omega)
          rw [show n - (k + 1) + (i + 1) = n - k + i by omega] at this
          simpa using this) (by omega)
        rw [List.map_cons, toDf]
        have := CellsR.append r1 r3
        have e1 : (cs.drop ((n - (k + 1)) * P.cellsOf e)).take (P.cellsOf e) ++ cs.drop ((n - k) * P.cellsOf e) = cs.drop ((n - (k + 1)) * P.cellsOf e) := by
          rw [show (n - k) * P.cellsOf e = (n - (k + 1)) * P.cellsOf e + P.cellsOf e by rw [show n - k = n - (k + 1) + 1 by omega, Nat.add_mul, Nat.one_mul], ← List.drop_drop, List.take_append_drop]
        rwa [e1] at this
  have := key n xs hxl (fun i hi => by rw [Nat.sub_self, Nat.zero_add]; exact hf i hi) (Nat.le_refl _)
  rwa [Nat.sub_self, Nat.zero_mul, List.drop_zero] at this
theorem arg_agg {S : Nat → Nat → Prop} {cs : Array Value} {ds : List D} (hS : S = S0 w) (h : CellsR w cs.toList ds) : Rd w S none (.agg ds) (.agg cs) := by
  subst hS
  refine Rd_agg.2 ⟨cs, rfl, by simpa using h.1, fun j hj => ?_⟩
  obtain ⟨c, c1, c2, c3⟩ := h.2 j hj
  exact ⟨c, by simpa using c1, c2, c3⟩
theorem reach_ok {P : Program} {l : List TypeId} (h : l.all (goodT P fun t => l.contains t) = true) : ∀ t, (l.contains t) = true → goodT P (fun t => l.contains t) t = true := fun t ht => List.all_eq_true.1 h t (by simpa using ht)
theorem all_stays {P : Program} (hl : laidOutB P = true) {W W' : World} (hb : Below W.heap.size W W') : ∀ {ts : List TypeId} {vs : List Value} {ds : List (DataW H)} {ps : List MemPlace}, (ts.all fun t => P.readableRec t && decide (t < P.types.size)) = true → (∀ x ∈ ps, x.block < W.heap.size) →
    DataW.TrodAll enc P W 0 (fun _ => true) true ts vs ds ps → DataW.TrodAll enc P W' 0 (fun b => decide (b < W.heap.size)) true ts vs ds ps
  | [], [], [], _, _, _, h => h
  | t :: ts, v :: vs, d :: ds, ps, ht, hp, h => by
    obtain ⟨p, q, h1, h2, rfl⟩ := h
    simp only [List.all_cons, Bool.and_eq_true, decide_eq_true_eq] at ht
    exact ⟨p, q, Below.trod hl ht.1.1 ht.1.2 h1 hb fun x hx => hp x (List.mem_append_left _ hx), all_stays hl hb (by simpa using ht.2) (fun x hx => hp x (List.mem_append_right _ hx)) h2, rfl⟩
end
end Go.Proofs.Dv
set_option linter.unusedVariables false
set_option linter.unusedSimpArgs false
namespace Go.Proofs.Dv
open Go.RowKit
def I64 (n : Int) : Prop := -9223372036854775808 ≤ n ∧ n ≤ 9223372036854775807
def U64 (n : Int) : Prop := 0 ≤ n ∧ n < 18446744073709551616
structure Api (P : Program) where
  u8 : TypeId
  int : TypeId
  u64 : TypeId
  str : TypeId
  pc : TypeId
  pcs : TypeId
  opn : TypeId
  opns : TypeId
  tm : TypeId
  tms : TypeId
  ef : TypeId
  efs : TypeId
  ins : TypeId
  inss : TypeId
  rg : TypeId
  rgs : TypeId
  ints : TypeId
  bk : TypeId
  bks : TypeId
  un : TypeId
  uns : TypeId
  mc : TypeId
  h_u8 : shOf P u8 = .int .u8
  h_int : shOf P int = .int .i64
  h_u64 : shOf P u64 = .int .u64
  h_str : shOf P str = .str
  h_pc : shOf P pc = .st [int, int]
  h_pcs : shOf P pcs = .sl pc
  h_opn : shOf P opn = .st [str, u8, int, int, pcs, int]
  h_opns : shOf P opns = .sl opn
  h_tm : shOf P tm = .st [u8, int, u64, str, int, tms]
  h_tms : shOf P tms = .sl tm
  h_ef : shOf P ef = .st [u8, int, int, tm, tm, tm]
  h_efs : shOf P efs = .sl ef
  h_ins : shOf P ins = .st [str, u64, u64, opns, efs, int, int, int, int]
  h_inss : shOf P inss = .sl ins
  h_rg : shOf P rg = .st [str, int, int, int]
  h_rgs : shOf P rgs = .sl rg
  h_ints : shOf P ints = .sl int
  h_bk : shOf P bk = .st [str, ints]
  h_bks : shOf P bks = .sl bk
  h_un : shOf P un = .st [str, int]
  h_uns : shOf P uns = .sl un
  h_mc : shOf P mc = .st [str, int, int, rgs, bks, uns, inss]
section
variable {P : Program} {n : Nat} {t : TypeId} {ds : List D}
theorem ty_st {ts : List TypeId} (h : shOf P t = .st ts) (ht : Ty P n t ds) : ∃ n', n = n' + 1 ∧ Ty.go P n' ts ds := by
  cases n with
  | zero => rw [Ty] at ht; exact ht.elim
  | succ n => rw [Ty, h] at ht; exact ⟨n, rfl, ht⟩
theorem ty_i64 (h : shOf P t = .int .i64) (ht : Ty P n t ds) : ∃ x, ds = [.v (.int .i64 x)] ∧ I64 x := by
  cases n with
  | zero => rw [Ty] at ht; exact ht.elim
  | succ n =>
    rw [Ty, h] at ht
    obtain ⟨x, h1, h2, h3⟩ := ht
    exact ⟨x, h1, by simp [IntKind.min, IntKind.signed, IntKind.bits] at h2; exact h2, by simp [IntKind.max, IntKind.signed, IntKind.bits] at h3; exact h3⟩
theorem ty_u64 (h : shOf P t = .int .u64) (ht : Ty P n t ds) : ∃ x, ds = [.v (.int .u64 x)] ∧ U64 x := by
  cases n with
  | zero => rw [Ty] at ht; exact ht.elim
  | succ n =>
    rw [Ty, h] at ht
    obtain ⟨x, h1, h2, h3⟩ := ht
    exact ⟨x, h1, by simpa [IntKind.min, IntKind.signed, IntKind.bits] using h2, by simp [IntKind.max, IntKind.signed, IntKind.bits] at h3; omega⟩
theorem ty_u8 (h : shOf P t = .int .u8) (ht : Ty P n t ds) : ∃ x, ds = [.v (.int .u8 x)] ∧ 0 ≤ x ∧ x ≤ 255 := by
  cases n with
  | zero => rw [Ty] at ht; exact ht.elim
  | succ n =>
    rw [Ty, h] at ht
    obtain ⟨x, h1, h2, h3⟩ := ht
    exact ⟨x, h1, by simpa [IntKind.min, IntKind.signed, IntKind.bits] using h2, by simp [IntKind.max, IntKind.signed, IntKind.bits] at h3; omega⟩
theorem ty_str (h : shOf P t = .str) (ht : Ty P n t ds) : ∃ s, ds = [.v (.string s)] ∧ s.size ≤ maxLen := by
  cases n with
  | zero => rw [Ty] at ht; exact ht.elim
  | succ n => rw [Ty, h] at ht; exact ht
theorem ty_sl {e : TypeId} (h : shOf P t = .sl e) (ht : Ty P n t ds) {X : Type} {f : X → List D} {W : X → Prop} (hx : ∀ n' ds, n' < n → Ty P n' e ds → ∃ x, ds = f x ∧ W x) : ∃ xs : List X, ds = [.lst false (xs.map f)] ∧ ∀ x ∈ xs, W x := by
  cases n with
  | zero => rw [Ty] at ht; exact ht.elim
  | succ n =>
    rw [Ty, h] at ht
    obtain ⟨es, h1, h2⟩ := ht
    have : ∀ es : List (List D), (∀ x ∈ es, Ty P n e x) → ∃ xs : List X, es = xs.map f ∧ ∀ x ∈ xs, W x := by
      intro es
      induction es with
      | nil => intro _; exact ⟨[], rfl, fun x hx => by simp at hx⟩
      | cons y es ih =>
        intro hy
        obtain ⟨x, x1, x2⟩ := hx n y (by omega) (hy y List.mem_cons_self)
        obtain ⟨xs, x3, x4⟩ := ih fun z hz => hy z (List.mem_cons_of_mem _ hz)
        refine ⟨x :: xs, by rw [x1, x3]; rfl, fun z hz => ?_⟩
        rcases List.mem_cons.1 hz with rfl | hz
        · exact x2
        · exact x4 z hz
    obtain ⟨xs, x1, x2⟩ := this es h2
    exact ⟨xs, by rw [h1, x1], x2⟩
theorem ty_ints {i : TypeId} (hi : shOf P i = .int .i64) (h : shOf P t = .sl i) (ht : Ty P n t ds) : ∃ xs : List Int, ds = [.lst false (xs.map iD)] ∧ ∀ x ∈ xs, I64 x := ty_sl h ht fun n' ds _ h => ty_i64 hi h
end
mutual
def T.tw : T → Prop
  | .mk k w b _ l s => 0 ≤ k ∧ I64 w ∧ U64 b ∧ I64 l ∧ T.tws s
def T.tws : List T → Prop
  | [] => True
  | t :: ts => T.tw t ∧ T.tws ts
end
theorem T.tws_mem : ∀ {s : List T}, T.tws s ↔ ∀ u ∈ s, T.tw u
  | [] => by rw [T.tws]; simp
  | t :: ts => by rw [T.tws, T.tws_mem]; simp
section
variable {P : Program}
theorem T_of (A : Api P) : ∀ (n : Nat) (ds : List D), Ty P n A.tm ds → ∃ t : T, ds = t.d ∧ t.tw := by
  intro n
  induction n using Nat.strongRecOn with
  | ind n ih =>
    intro ds ht
    obtain ⟨n', rfl, h⟩ := ty_st A.h_tm ht
    simp only [Ty.go] at h
    obtain ⟨x1, r1, rfl, h1, x2, r2, rfl, h2, x3, r3, rfl, h3, x4, r4, rfl, h4, x5, r5, rfl, h5, x6, r6, rfl, h6, rfl⟩ := h
    obtain ⟨k, rfl, k1⟩ := ty_u8 A.h_u8 h1
    obtain ⟨w, rfl, w1⟩ := ty_i64 A.h_int h2
    obtain ⟨b, rfl, b1⟩ := ty_u64 A.h_u64 h3
    obtain ⟨s, rfl, _⟩ := ty_str A.h_str h4
    obtain ⟨l, rfl, l1⟩ := ty_i64 A.h_int h5
    obtain ⟨ts, rfl, t1⟩ := ty_sl A.h_tms h6 (f := T.d) (W := T.tw) fun m ds hm h => ih m (by omega) ds h
    exact ⟨.mk k w b s l ts, by rw [T.d_eq]; rfl, by rw [T.tw]; exact ⟨k1.1, w1, b1, l1, T.tws_mem.2 t1⟩⟩
def Ins.tw (i : Ins) : Prop := U64 i.mask ∧ U64 i.match_ ∧ ∀ e ∈ i.effects, e.addr.tw ∧ e.value.tw ∧ e.cond.tw
def Mc.tw (m : Mc) : Prop := (∀ i ∈ m.instrs, i.tw) ∧ ∀ r ∈ m.regs, I64 r.width ∧ I64 r.of_ ∧ I64 r.low
theorem Mc_of (A : Api P) {n : Nat} {ds : List D} (ht : Ty P n A.mc ds) : ∃ m : Mc, ds = m.d ∧ m.tw := by
  have hpc : ∀ n ds, Ty P n A.pc ds → ∃ p : Pc, ds = p.d ∧ True := by
    intro n ds ht
    obtain ⟨n', rfl, h⟩ := ty_st A.h_pc ht
    simp only [Ty.go] at h
    obtain ⟨x1, r1, rfl, h1, x2, r2, rfl, h2, rfl⟩ := h
    obtain ⟨a, rfl, _⟩ := ty_i64 A.h_int h1
    obtain ⟨b, rfl, _⟩ := ty_i64 A.h_int h2
    exact ⟨⟨a, b⟩, rfl, trivial⟩
  have hop : ∀ n ds, Ty P n A.opn ds → ∃ o : Opn, ds = o.d ∧ True := by
    intro n ds ht
    obtain ⟨n', rfl, h⟩ := ty_st A.h_opn ht
    simp only [Ty.go] at h
    obtain ⟨x1, r1, rfl, h1, x2, r2, rfl, h2, x3, r3, rfl, h3, x4, r4, rfl, h4, x5, r5, rfl, h5, x6, r6, rfl, h6, rfl⟩ := h
    obtain ⟨s, rfl, _⟩ := ty_str A.h_str h1
    obtain ⟨k, rfl, _⟩ := ty_u8 A.h_u8 h2
    obtain ⟨b, rfl, _⟩ := ty_i64 A.h_int h3
    obtain ⟨c, rfl, _⟩ := ty_i64 A.h_int h4
    obtain ⟨ps, rfl, _⟩ := ty_sl A.h_pcs h5 (f := Pc.d) (W := fun _ => True) fun m ds _ h => hpc m ds h
    obtain ⟨e, rfl, _⟩ := ty_i64 A.h_int h6
    exact ⟨⟨s, k, b, c, ps, e⟩, rfl, trivial⟩
  have hef : ∀ n ds, Ty P n A.ef ds → ∃ e : Ef, ds = e.d ∧ e.addr.tw ∧ e.value.tw ∧ e.cond.tw := by
    intro n ds ht
    obtain ⟨n', rfl, h⟩ := ty_st A.h_ef ht
    simp only [Ty.go] at h
    obtain ⟨x1, r1, rfl, h1, x2, r2, rfl, h2, x3, r3, rfl, h3, x4, r4, rfl, h4, x5, r5, rfl, h5, x6, r6, rfl, h6, rfl⟩ := h
    obtain ⟨k, rfl, _⟩ := ty_u8 A.h_u8 h1
    obtain ⟨b, rfl, _⟩ := ty_i64 A.h_int h2
    obtain ⟨c, rfl, _⟩ := ty_i64 A.h_int h3
    obtain ⟨t, rfl, t1⟩ := T_of A _ _ h4
    obtain ⟨u, rfl, u1⟩ := T_of A _ _ h5
    obtain ⟨v, rfl, v1⟩ := T_of A _ _ h6
    exact ⟨⟨k, b, c, t, u, v⟩, by simp [Ef.d], t1, u1, v1⟩
  have hin : ∀ n ds, Ty P n A.ins ds → ∃ i : Ins, ds = i.d ∧ i.tw := by
    intro n ds ht
    obtain ⟨n', rfl, h⟩ := ty_st A.h_ins ht
    simp only [Ty.go] at h
    obtain ⟨x1, r1, rfl, h1, x2, r2, rfl, h2, x3, r3, rfl, h3, x4, r4, rfl, h4, x5, r5, rfl, h5, x6, r6, rfl, h6, x7, r7, rfl, h7, x8, r8, rfl, h8, x9, r9, rfl, h9, rfl⟩ := h
    obtain ⟨s, rfl, _⟩ := ty_str A.h_str h1
    obtain ⟨a, rfl, a1⟩ := ty_u64 A.h_u64 h2
    obtain ⟨b, rfl, b1⟩ := ty_u64 A.h_u64 h3
    obtain ⟨os, rfl, _⟩ := ty_sl A.h_opns h4 (f := Opn.d) (W := fun _ => True) fun m ds _ h => hop m ds h
    obtain ⟨es, rfl, e1⟩ := ty_sl A.h_efs h5 (f := Ef.d) (W := fun e => e.addr.tw ∧ e.value.tw ∧ e.cond.tw) fun m ds _ h => hef m ds h
    obtain ⟨c, rfl, _⟩ := ty_i64 A.h_int h6
    obtain ⟨d, rfl, _⟩ := ty_i64 A.h_int h7
    obtain ⟨e, rfl, _⟩ := ty_i64 A.h_int h8
    obtain ⟨f, rfl, _⟩ := ty_i64 A.h_int h9
    exact ⟨⟨s, a, b, os, es, c, d, e, f⟩, rfl, a1, b1, e1⟩
  have hrg : ∀ n ds, Ty P n A.rg ds → ∃ r : Rg, ds = r.d ∧ I64 r.width ∧ I64 r.of_ ∧ I64 r.low := by
    intro n ds ht
    obtain ⟨n', rfl, h⟩ := ty_st A.h_rg ht
    simp only [Ty.go] at h
    obtain ⟨x1, r1, rfl, h1, x2, r2, rfl, h2, x3, r3, rfl, h3, x4, r4, rfl, h4, rfl⟩ := h
    obtain ⟨s, rfl, _⟩ := ty_str A.h_str h1
    obtain ⟨a, rfl, a1⟩ := ty_i64 A.h_int h2
    obtain ⟨b, rfl, b1⟩ := ty_i64 A.h_int h3
    obtain ⟨c, rfl, c1⟩ := ty_i64 A.h_int h4
    exact ⟨⟨s, a, b, c⟩, rfl, a1, b1, c1⟩
  have hbk : ∀ n ds, Ty P n A.bk ds → ∃ b : Bk, ds = b.d ∧ True := by
    intro n ds ht
    obtain ⟨n', rfl, h⟩ := ty_st A.h_bk ht
    simp only [Ty.go] at h
    obtain ⟨x1, r1, rfl, h1, x2, r2, rfl, h2, rfl⟩ := h
    obtain ⟨s, rfl, _⟩ := ty_str A.h_str h1
    obtain ⟨a, rfl, _⟩ := ty_ints A.h_int A.h_ints h2
    exact ⟨⟨s, a⟩, rfl, trivial⟩
  have hun : ∀ n ds, Ty P n A.un ds → ∃ u : Un, ds = u.d ∧ True := by
    intro n ds ht
    obtain ⟨n', rfl, h⟩ := ty_st A.h_un ht
    simp only [Ty.go] at h
    obtain ⟨x1, r1, rfl, h1, x2, r2, rfl, h2, rfl⟩ := h
    obtain ⟨s, rfl, _⟩ := ty_str A.h_str h1
    obtain ⟨a, rfl, _⟩ := ty_i64 A.h_int h2
    exact ⟨⟨s, a⟩, rfl, trivial⟩
  obtain ⟨n', rfl, h⟩ := ty_st A.h_mc ht
  simp only [Ty.go] at h
  obtain ⟨x1, r1, rfl, h1, x2, r2, rfl, h2, x3, r3, rfl, h3, x4, r4, rfl, h4, x5, r5, rfl, h5, x6, r6, rfl, h6, x7, r7, rfl, h7, rfl⟩ := h
  obtain ⟨s, rfl, _⟩ := ty_str A.h_str h1
  obtain ⟨a, rfl, _⟩ := ty_i64 A.h_int h2
  obtain ⟨b, rfl, _⟩ := ty_i64 A.h_int h3
  obtain ⟨rs, rfl, r1⟩ := ty_sl A.h_rgs h4 (f := Rg.d) (W := fun r => I64 r.width ∧ I64 r.of_ ∧ I64 r.low) fun m ds _ h => hrg m ds h
  obtain ⟨bs, rfl, _⟩ := ty_sl A.h_bks h5 (f := Bk.d) (W := fun _ => True) fun m ds _ h => hbk m ds h
  obtain ⟨us, rfl, _⟩ := ty_sl A.h_uns h6 (f := Un.d) (W := fun _ => True) fun m ds _ h => hun m ds h
  obtain ⟨is, rfl, i1⟩ := ty_sl A.h_inss h7 (f := Ins.d) (W := Ins.tw) fun m ds _ h => hin m ds h
  exact ⟨⟨s, a, b, rs, bs, us, is⟩, rfl, i1, r1⟩
theorem Mo_of (A : Api P) {mo : TypeId} (h_mo : shOf P mo = .st [A.int, A.ints]) {n : Nat} {ds : List D} (ht : Ty P n mo ds) : ∃ o : Mo, ds = o.d ∧ I64 o.instr ∧ ∀ a ∈ o.args, I64 a := by
  obtain ⟨n', rfl, h⟩ := ty_st h_mo ht
  simp only [Ty.go] at h
  obtain ⟨x1, r1, rfl, h1, x2, r2, rfl, h2, rfl⟩ := h
  obtain ⟨a, rfl, a1⟩ := ty_i64 A.h_int h1
  obtain ⟨as, rfl, b1⟩ := ty_ints A.h_int A.h_ints h2
  exact ⟨⟨a, as⟩, rfl, a1, b1⟩
end
end Go.Proofs.Dv
set_option linter.unusedVariables false
set_option linter.unusedSimpArgs false
set_option maxRecDepth 100000
namespace Go.Proofs.Dv
open Go.RowKit
open Nat renaming reduceEqDiff → zA, reduceAdd → zB, reduceSub → zC, reduceLeDiff → zD, reduceLT → zE, reduceMul → zF
open Int renaming reduceToNat → zG, reduceLE → zH, reduceLT → zI
open List renaming set_cons_zero → zJ, set_cons_succ → zK
def efN (e : Ef) : Int := (e.addr.size : Int) + (e.value.size : Int) + (e.cond.size : Int)
def insN (i : Ins) : Int := (i.effects.map efN).sum
def nodesM (m : Mc) : Int := (m.instrs.map insN).sum
def SmT (m : Mc) : Prop := m.instrs.length ≤ 100 ∧ ∀ i ∈ m.instrs, i.effects.length ≤ 100 ∧ ∀ e ∈ i.effects, (e.addr.size ≤ 500 ∧ e.addr.depth ≤ 80) ∧ (e.value.size ≤ 500 ∧ e.value.depth ≤ 80) ∧ (e.cond.size ≤ 500 ∧ e.cond.depth ≤ 80)
def x_NodesM (a : Mc) : List D := match a with | m => [.agg m.d]
theorem i_NodesM : ∀ a b, x_NodesM a = x_NodesM b → a = b := by
  rintro m m' h
  first | simpa [x_NodesM, INJ, and_assoc, Int.ofNat_inj] using h | (simp [x_NodesM, INJ, and_assoc, Int.ofNat_inj] at h; simp_all)
open Classical in
noncomputable def s_NodesM : List D → Option D := sOf x_NodesM fun a => match a with | m => if (SmT m) then some (.v (.int .i64 (nodesM m))) else none
theorem e_NodesM {m : Mc} (hc : (SmT m)) : s_NodesM [.agg m.d] = some (.v (.int .i64 (nodesM m))) := (sOf_eq i_NodesM m).trans (if_pos hc)
theorem R_NodesM {C : Ctx} {F : IFun} (hspec : ∀ N, maxLen + 10 < N → ∀ (m : Mc), lenOK.lenOKs [.agg m.d] → (SmT m) → runE C N F [.agg m.d] = some (.v (.int .i64 (nodesM m)))) : Runs C F (s_NodesM) := runs_of i_NodesM fun N hN m r hl hf => by
  simp only [Option.ite_none_right_eq_some, Option.some.injEq] at hf
  obtain ⟨hc, rfl⟩ := hf
  exact hspec N hN m hl hc
theorem lp_nodes (C : Ctx) (N : Nat) (hN : maxLen + 10 < N) (hS : C.T 104 = some (s_Siz 80)) (m : Mc) (k : Nat) (i : Ins) (hk : m.instrs[k]? = some i) (hi : i.effects.length ≤ 100 ∧ ∀ e ∈ i.effects, (e.addr.size ≤ 500 ∧ e.addr.depth ≤ 80) ∧ (e.value.size ≤ 500 ∧ e.value.depth ≤ 80) ∧ (e.cond.size ≤ 500 ∧ e.cond.depth ≤ 80)) (n : Int) (hn0 : 0 ≤ n) (hn1 : n ≤ 100000000) {β : Type} {K : Option (Ex × St) → Option β} {r : β} {σ : St}
    (h0 : trim [1, 3, 4, 5] 1 σ = some ⟨[(1, .ptr 0 0), (3, .v (.int .i64 n)), (4, .v (.int .i64 k)), (5, .v (.int .i64 ((0 : Nat) : Int)))], [(0, .box m.d)], 1⟩)
    (hK : outK K (ev C N lp40x0 ⟨[(1, .ptr 0 0), (3, .v (.int .i64 (n + insN i))), (4, .v (.int .i64 k)), (5, .v (.int .i64 i.effects.length))], [(0, .box m.d)], 1⟩) = some r) : ∀ I, iter (ev C N lp40x0) (trim [1, 3, 4, 5] 1) N σ = I → K I = some r := by
  have hml := maxLen_ge
  have hfold : ∀ (l : List Ef) (a : Int), l.foldl (fun a e => a + efN e) a = a + (l.map efN).sum := by
    intro l
    induction l with
    | nil => intro a; simp
    | cons e l ih => intro a; rw [List.foldl_cons, ih, List.map_cons, List.sum_cons, Int.add_assoc]
  refine iter_all i.effects (fun j a => ⟨[(1, .ptr 0 0), (3, .v (.int .i64 a)), (4, .v (.int .i64 k)), (5, .v (.int .i64 j))], [(0, .box m.d)], 1⟩) (fun a e => a + efN e) (fun j a => n ≤ a ∧ a ≤ n + 1500 * j) n (by omega) hN h0 ⟨Int.le_refl _, by omega⟩ ?_ ?_
  · rintro j a e hj hjw he ⟨ha1, ha2⟩
    have hil := (List.getElem?_eq_some_iff.1 he).1
    obtain ⟨⟨x1, x2⟩, ⟨y1, y2⟩, z1, z2⟩ := hi.2 e (List.mem_of_getElem? he)
    have s1 := @e_Siz 80 e.addr ⟨x2, by omega⟩
    have s2 := @e_Siz 80 e.value ⟨y2, by omega⟩
    have s3 := @e_Siz 80 e.cond ⟨z2, by omega⟩
    simp only [T.d_eq] at s1 s2 s3
    have hkk : decide (0 ≤ (k : Int)) = true := decide_eq_true (by omega)
    have w1 : IntKind.i64.wrap ((e.addr.size : Int) + (e.value.size : Int)) = (e.addr.size : Int) + (e.value.size : Int) := wr _ (by omega) (by omega)
    have w2 : IntKind.i64.wrap ((e.addr.size : Int) + (e.value.size : Int) + (e.cond.size : Int)) = efN e := wr _ (by omega) (by omega)
    have hef : 0 ≤ efN e ∧ efN e ≤ 1500 := by unfold efN; omega
    have w3 : IntKind.i64.wrap (a + efN e) = a + efN e := wr _ (by omega) (by omega)
    refine ⟨?_, by omega, by omega⟩
    simp -dsimp only [lp40x0, Mc.d, Ins.d, Ef.d, T.d_eq, hj, hjw, he, hk, hkk, hS, s1, s2, s3, w1, w2, w3, EVs, ↓EVd, ↓reduceIte, zA, zB, zC, zD, zE, zF, reduceBEq, reduceCtorEq, zG, zH, zI, zJ, zK, dcells, okc]
  · rintro _
    rw [hfold]
    exact hK
theorem r_Nodes (C : Ctx) (hS : C.T 104 = some (s_Siz 80)) : Runs C ir40 s_NodesM := R_NodesM fun N hN m hl hc => by
  obtain ⟨c1, c2⟩ := hc
  have hml := maxLen_ge
  simp -dsimp only [runE, run_eq, ir40, Mc.d, EVs, ↓EVd, ↓reduceIte, zA, zB, zC, zD, zE, zF, reduceBEq, reduceCtorEq, zG, zH, zI, zJ, zK, dcells, okc]
  generalize hI : iter _ _ _ _ = I
  revert I
  have hfold : ∀ (l : List Ins) (a : Int), l.foldl (fun a e => a + insN e) a = a + (l.map insN).sum := by
    intro l
    induction l with
    | nil => intro a; simp
    | cons e l ih => intro a; rw [List.foldl_cons, ih, List.map_cons, List.sum_cons, Int.add_assoc]
  have hins : ∀ i ∈ m.instrs, 0 ≤ insN i ∧ insN i ≤ 150000 := by
    intro i hi
    obtain ⟨d1, d2⟩ := c2 i hi
    have : ∀ l : List Ef, (∀ e ∈ l, e ∈ i.effects) → 0 ≤ (l.map efN).sum ∧ (l.map efN).sum ≤ 1500 * l.length := by
      intro l
      induction l with
      | nil => intro _; simp
      | cons e l ih =>
        intro h
        have h1 := ih fun x hx => h x (List.mem_cons_of_mem _ hx)
        obtain ⟨⟨x1, x2⟩, ⟨y1, y2⟩, z1, z2⟩ := d2 e (h e List.mem_cons_self)
        have hef : 0 ≤ efN e ∧ efN e ≤ 1500 := by unfold efN; omega
        rw [List.map_cons, List.sum_cons, List.length_cons]
        omega
    have := this i.effects fun _ h => h
    unfold insN
    omega
  have e0 : nodesM m = m.instrs.foldl (fun a e => a + insN e) 0 := by rw [hfold, Int.zero_add]; rfl
  rw [e0]
  refine iter_all m.instrs (fun j a => ⟨[(1, .ptr 0 0), (3, .v (.int .i64 a)), (4, .v (.int .i64 j))], [(0, .box m.d)], 1⟩) (fun a i => a + insN i) (fun j a => 0 ≤ a ∧ a ≤ 150000 * j) 0 (by omega) hN ?_ ⟨Int.le_refl _, by omega⟩ ?_ ?_
  · simp -dsimp only [Mc.d, EVs, ↓EVd, ↓reduceIte, zA, zB, zC, zD, zE, zF, reduceBEq, reduceCtorEq, zG, zH, zI, zJ, zK, dcells, okc]
  · rintro j a i hj hjw hi ⟨ha1, ha2⟩
    have hil := (List.getElem?_eq_some_iff.1 hi).1
    have hb := hins i (List.mem_of_getElem? hi)
    refine ⟨?_, by omega, by omega⟩
    simp -dsimp only [lp40x1, Mc.d, hj, hi, EVs, ↓EVd, ↓reduceIte, zA, zB, zC, zD, zE, zF, reduceBEq, reduceCtorEq, zG, zH, zI, zJ, zK, dcells, okc]
    generalize hL : iter _ _ _ _ = L
    revert L
    refine lp_nodes C N hN hS m j i hi (c2 i (List.mem_of_getElem? hi)) a ha1 (by omega) ?_ ?_
    · simp -dsimp only [Mc.d, EVs, ↓EVd, ↓reduceIte, zA, zB, zC, zD, zE, zF, reduceBEq, reduceCtorEq, zG, zH, zI, zJ, zK, dcells, okc]
    · simp -dsimp only [lp40x0, Mc.d, Ins.d, hi, hjw, EVs, ↓EVd, ↓reduceIte, zA, zB, zC, zD, zE, zF, reduceBEq, reduceCtorEq, zG, zH, zI, zJ, zK, dcells, okc]
  · intro _
    simp -dsimp only [lp40x1, Mc.d, EVs, ↓EVd, ↓reduceIte, zA, zB, zC, zD, zE, zF, reduceBEq, reduceCtorEq, zG, zH, zI, zJ, zK, dcells, okc]
end Go.Proofs.Dv
set_option linter.unusedVariables false
set_option linter.unusedSimpArgs false
set_option maxRecDepth 100000
namespace Go.Proofs.Dv
open Go.RowKit
open Nat renaming reduceEqDiff → zA, reduceAdd → zB, reduceSub → zC, reduceLeDiff → zD, reduceLT → zE, reduceMul → zF
open Int renaming reduceToNat → zG, reduceLE → zH, reduceLT → zI
open List renaming set_cons_zero → zJ, set_cons_succ → zK
def gb1 (b : Bk) : Bool := decide ((74 : Int) < (b.regs.length : Int)) || decide ((100 : Int) < (b.name.size : Int))
def go1 (o : Opn) : Bool := decide ((14 : Int) < (o.pieces.length : Int)) || decide ((100 : Int) < (o.name.size : Int))
def ge1 (e : Ef) : Bool := (greatT e.addr || greatT e.value) || greatT e.cond
def gi1 (i : Ins) : Bool := (decide ((14 : Int) < (i.operands.length : Int)) || decide ((14 : Int) < (i.effects.length : Int))) || decide ((100 : Int) < (i.name.size : Int))
def giOK (i : Ins) : Bool := !gi1 i && (i.operands.all (fun o => !go1 o) && i.effects.all (fun e => !ge1 e))
def gHead (m : Mc) : Bool := ((((decide ((100 : Int) < (m.name.size : Int)) || decide ((74 : Int) < (m.regs.length : Int))) || decide ((26 : Int) < (m.banks.length : Int))) || decide ((18 : Int) < (m.units.length : Int))) || decide ((74 : Int) < (m.instrs.length : Int)))
def greatM (m : Mc) : Bool := bif gHead m then true else bif !m.banks.all (fun b => !gb1 b) then true else bif !m.instrs.all giOK then true else decide ((1500 : Int) < nodesM m)
theorem giOK_sm {m : Mc} (h1 : gHead m = false) (h2 : m.instrs.all giOK = true) : SmT m := by
  simp only [gHead, Bool.or_eq_false_iff, decide_eq_false_iff_not] at h1
  refine ⟨by omega, fun i hi => ?_⟩
  have h3 := List.all_eq_true.1 h2 i hi
  simp only [giOK, gi1, Bool.and_eq_true, Bool.not_eq_true', Bool.or_eq_false_iff, decide_eq_false_iff_not, List.all_eq_true] at h3
  refine ⟨by omega, fun e he => ?_⟩
  have h4 := h3.2.2 e he
  simp only [ge1, Bool.or_eq_false_iff] at h4
  obtain ⟨⟨a1, a2⟩, a3⟩ := h4
  have a1 := great_small a1
  have a2 := great_small a2
  have a3 := great_small a3
  exact ⟨⟨a1.2.1, a1.1⟩, ⟨a2.2.1, a2.1⟩, a3.2.1, a3.1⟩
theorem lp4o (C : Ctx) (N : Nat) (hN : maxLen + 10 < N) (m : Mc) (s : Ins) (i : Nat) (hl : s.operands.length ≤ maxLen) {σ : St} {J : Option (Ex × St)} (hJ : iter (ev C N lp11x1) (trim [1, 4, 5, 6] 2) N σ = J)
    (h0 : trim [1, 4, 5, 6] 2 σ = some ⟨[(1, .ptr 0 0), (4, .v (.int .i64 i)), (5, .ptr 1 0), (6, .v (.int .i64 ((0 : Nat) : Int)))], [(1, .box s.d), (0, .box m.d)], 2⟩) :
    (s.operands.all (fun o => !go1 o) = true → J = some (.ex 4, ⟨[(93, .v (.bool false)), (92, .v (.int .i64 s.operands.length)), (91, .lst false (s.operands.map Opn.d)), (90, .ptr 1 3), (89, .v (.int .i64 s.operands.length)), (1, .ptr 0 0), (4, .v (.int .i64 i)), (5, .ptr 1 0), (6, .v (.int .i64 s.operands.length))], [(1, .box s.d), (0, .box m.d)], 2⟩)) ∧
    (s.operands.all (fun o => !go1 o) = false → ∃ σ', J = some (.rt, σ') ∧ lkf σ'.fr 2 = .v (.bool true)) := by
  have key := rloopJ (d := .v (.bool true)) (ret := 2) (e := 4) hJ s.operands (fun j => ⟨[(1, .ptr 0 0), (4, .v (.int .i64 i)), (5, .ptr 1 0), (6, .v (.int .i64 j))], [(1, .box s.d), (0, .box m.d)], 2⟩) (fun _ o => !go1 o)
    (σe := ⟨[(93, .v (.bool false)), (92, .v (.int .i64 s.operands.length)), (91, .lst false (s.operands.map Opn.d)), (90, .ptr 1 3), (89, .v (.int .i64 s.operands.length)), (1, .ptr 0 0), (4, .v (.int .i64 i)), (5, .ptr 1 0), (6, .v (.int .i64 s.operands.length))], [(1, .box s.d), (0, .box m.d)], 2⟩) hl hN h0 ?_ ?_ (by simp -dsimp only [lp11x1, Ins.d, EVs, ↓EVd, ↓reduceIte, zA, zB, zC, zD, zE, zF, reduceBEq, reduceCtorEq, zG, zH, zI, zJ, zK, dcells, okc])
  · rw [allI_all] at key
    exact key
  · intro j o hj hjw ho hp
    simp only [go1, Bool.not_eq_true', Bool.or_eq_false_iff] at hp
    simp -dsimp only [lp11x1, Mc.d, Ins.d, Opn.d, hj, hjw, ho, hp.1, hp.2, EVs, ↓EVd, ↓reduceIte, zA, zB, zC, zD, zE, zF, reduceBEq, reduceCtorEq, zG, zH, zI, zJ, zK, dcells, okc]
  · intro j o hj ho hp
    simp only [go1, Bool.not_eq_false'] at hp
    cases c1 : decide ((14 : Int) < (o.pieces.length : Int))
    · rw [c1, Bool.false_or] at hp
      simp -dsimp only [EVq, lp11x1, Mc.d, Ins.d, Opn.d, hj, ho, c1, hp, EVs, ↓EVd, ↓reduceIte, zA, zB, zC, zD, zE, zF, reduceBEq, reduceCtorEq, zG, zH, zI, zJ, zK, dcells, okc]
    · simp -dsimp only [EVq, lp11x1, Mc.d, Ins.d, Opn.d, hj, ho, c1, EVs, ↓EVd, ↓reduceIte, zA, zB, zC, zD, zE, zF, reduceBEq, reduceCtorEq, zG, zH, zI, zJ, zK, dcells, okc]
theorem lp4e (C : Ctx) (N : Nat) (hN : maxLen + 10 < N) (hG : C.T 39 = some s_Great02) (m : Mc) (s : Ins) (i : Nat) (hl : s.effects.length ≤ maxLen) {σ : St} {J : Option (Ex × St)} (hJ : iter (ev C N lp11x2) (trim [1, 4, 5, 7] 2) N σ = J)
    (h0 : trim [1, 4, 5, 7] 2 σ = some ⟨[(1, .ptr 0 0), (4, .v (.int .i64 i)), (5, .ptr 1 0), (7, .v (.int .i64 ((0 : Nat) : Int)))], [(1, .box s.d), (0, .box m.d)], 2⟩) :
    (s.effects.all (fun e => !ge1 e) = true → J = some (.ex 6, ⟨[(118, .v (.bool false)), (117, .v (.int .i64 s.effects.length)), (116, .lst false (s.effects.map Ef.d)), (115, .ptr 1 4), (114, .v (.int .i64 s.effects.length)), (1, .ptr 0 0), (4, .v (.int .i64 i)), (5, .ptr 1 0), (7, .v (.int .i64 s.effects.length))], [(1, .box s.d), (0, .box m.d)], 2⟩)) ∧
    (s.effects.all (fun e => !ge1 e) = false → ∃ σ', J = some (.rt, σ') ∧ lkf σ'.fr 2 = .v (.bool true)) := by
  have key := rloopJ (d := .v (.bool true)) (ret := 2) (e := 6) hJ s.effects (fun j => ⟨[(1, .ptr 0 0), (4, .v (.int .i64 i)), (5, .ptr 1 0), (7, .v (.int .i64 j))], [(1, .box s.d), (0, .box m.d)], 2⟩) (fun _ e => !ge1 e)
    (σe := ⟨[(118, .v (.bool false)), (117, .v (.int .i64 s.effects.length)), (116, .lst false (s.effects.map Ef.d)), (115, .ptr 1 4), (114, .v (.int .i64 s.effects.length)), (1, .ptr 0 0), (4, .v (.int .i64 i)), (5, .ptr 1 0), (7, .v (.int .i64 s.effects.length))], [(1, .box s.d), (0, .box m.d)], 2⟩) hl hN h0 ?_ ?_ (by simp -dsimp only [lp11x2, Ins.d, EVs, ↓EVd, ↓reduceIte, zA, zB, zC, zD, zE, zF, reduceBEq, reduceCtorEq, zG, zH, zI, zJ, zK, dcells, okc])
  · rw [allI_all] at key
    exact key
  · intro j e hj hjw he hp
    have g1 := @e_Great02 e.addr
    have g2 := @e_Great02 e.value
    have g3 := @e_Great02 e.cond
    simp only [T.d_eq] at g1 g2 g3
    simp only [ge1, Bool.not_eq_true', Bool.or_eq_false_iff] at hp
    simp -dsimp only [lp11x2, Mc.d, Ins.d, Ef.d, T.d_eq, hj, hjw, he, hG, g1, g2, g3, hp.1.1, hp.1.2, hp.2, EVs, ↓EVd, ↓reduceIte, zA, zB, zC, zD, zE, zF, reduceBEq, reduceCtorEq, zG, zH, zI, zJ, zK, dcells, okc]
  · intro j e hj he hp
    have g1 := @e_Great02 e.addr
    have g2 := @e_Great02 e.value
    have g3 := @e_Great02 e.cond
    simp only [T.d_eq] at g1 g2 g3
    simp only [ge1, Bool.not_eq_false'] at hp
    cases c1 : greatT e.addr
    · cases c2 : greatT e.value
      · rw [c1, c2, Bool.false_or, Bool.false_or] at hp
        simp -dsimp only [EVq, lp11x2, Mc.d, Ins.d, Ef.d, T.d_eq, hj, he, hG, g1, g2, g3, c1, c2, hp, EVs, ↓EVd, ↓reduceIte, zA, zB, zC, zD, zE, zF, reduceBEq, reduceCtorEq, zG, zH, zI, zJ, zK, dcells, okc]
      · simp -dsimp only [EVq, lp11x2, Mc.d, Ins.d, Ef.d, T.d_eq, hj, he, hG, g1, g2, g3, c1, c2, EVs, ↓EVd, ↓reduceIte, zA, zB, zC, zD, zE, zF, reduceBEq, reduceCtorEq, zG, zH, zI, zJ, zK, dcells, okc]
    · simp -dsimp only [EVq, lp11x2, Mc.d, Ins.d, Ef.d, T.d_eq, hj, he, hG, g1, g2, g3, c1, EVs, ↓EVd, ↓reduceIte, zA, zB, zC, zD, zE, zF, reduceBEq, reduceCtorEq, zG, zH, zI, zJ, zK, dcells, okc]
def x_GreatM (a : Mc) : List D := match a with | m => [.agg m.d]
theorem i_GreatM : ∀ a b, x_GreatM a = x_GreatM b → a = b := by
  rintro m m' h
  first | simpa [x_GreatM, INJ, and_assoc, Int.ofNat_inj] using h | (simp [x_GreatM, INJ, and_assoc, Int.ofNat_inj] at h; simp_all)
noncomputable def s_GreatM : List D → Option D := sOf x_GreatM fun a => match a with | m => some (.v (.bool (greatM m)))
theorem e_GreatM {m : Mc} : s_GreatM [.agg m.d] = some (.v (.bool (greatM m))) := sOf_eq i_GreatM m
theorem R_GreatM {C : Ctx} {F : IFun} (hspec : ∀ N, maxLen + 10 < N → ∀ (m : Mc), lenOK.lenOKs [.agg m.d] → runE C N F [.agg m.d] = some (.v (.bool (greatM m)))) : Runs C F s_GreatM := runs_of i_GreatM fun N hN m r hl hf => by
  simp only [Option.some.injEq] at hf
  subst hf
  exact hspec N hN m hl
set_option maxHeartbeats 2000000 in
theorem r_Great8 (C : Ctx) (hG : C.T 39 = some s_Great02) (hNd : C.T 40 = some s_NodesM) : Runs C ir11 s_GreatM := R_GreatM fun N hN m hl => by
  have hlb : m.banks.length ≤ maxLen ∧ m.instrs.length ≤ maxLen := by
    simp only [Mc.d, EVl, List.length_map] at hl
    exact ⟨hl.1.2.2.2.2.1.1, hl.1.2.2.2.2.2.2.1.1⟩
  have hio : ∀ s ∈ m.instrs, s.operands.length ≤ maxLen ∧ s.effects.length ≤ maxLen := by
    intro s hs
    simp only [Mc.d, EVl, List.length_map] at hl
    have := (lenOKss_iff.1 hl.1.2.2.2.2.2.2.1.2) _ (List.mem_map_of_mem hs)
    simp only [Ins.d, EVl, List.length_map] at this
    exact ⟨this.2.2.2.1.1, this.2.2.2.2.1.1⟩
  unfold greatM
  cases q0 : decide ((100 : Int) < (m.name.size : Int))
  case true => simp -dsimp only [runE, run_eq, ir11, Mc.d, gHead, q0, EVs, ↓EVd, ↓reduceIte, zA, zB, zC, zD, zE, zF, reduceBEq, reduceCtorEq, zG, zH, zI, zJ, zK, dcells, okc]
  cases q1 : decide ((74 : Int) < (m.regs.length : Int))
  case true => simp -dsimp only [runE, run_eq, ir11, Mc.d, gHead, q0, q1, EVs, ↓EVd, ↓reduceIte, zA, zB, zC, zD, zE, zF, reduceBEq, reduceCtorEq, zG, zH, zI, zJ, zK, dcells, okc]
  cases q2 : decide ((26 : Int) < (m.banks.length : Int))
  case true => simp -dsimp only [runE, run_eq, ir11, Mc.d, gHead, q0, q1, q2, EVs, ↓EVd, ↓reduceIte, zA, zB, zC, zD, zE, zF, reduceBEq, reduceCtorEq, zG, zH, zI, zJ, zK, dcells, okc]
  cases q3 : decide ((18 : Int) < (m.units.length : Int))
  case true => simp -dsimp only [runE, run_eq, ir11, Mc.d, gHead, q0, q1, q2, q3, EVs, ↓EVd, ↓reduceIte, zA, zB, zC, zD, zE, zF, reduceBEq, reduceCtorEq, zG, zH, zI, zJ, zK, dcells, okc]
  cases q4 : decide ((74 : Int) < (m.instrs.length : Int))
  case true => simp -dsimp only [runE, run_eq, ir11, Mc.d, gHead, q0, q1, q2, q3, q4, EVs, ↓EVd, ↓reduceIte, zA, zB, zC, zD, zE, zF, reduceBEq, reduceCtorEq, zG, zH, zI, zJ, zK, dcells, okc]
  have hh : gHead m = false := by simp only [gHead, q0, q1, q2, q3, q4]; rfl
  rw [hh, cond_false]
  simp -dsimp only [runE, run_eq, ir11, Mc.d, q0, q1, q2, q3, q4, EVs, ↓EVd, ↓reduceIte, zA, zB, zC, zD, zE, zF, reduceBEq, reduceCtorEq, zG, zH, zI, zJ, zK, dcells, okc]
  generalize hI : iter _ _ _ _ = I
  have k1 := rloopJ (d := .v (.bool true)) (ret := 2) (e := 0) hI m.banks (fun j => ⟨[(1, .ptr 0 0), (3, .v (.int .i64 j))], [(0, .box m.d)], 1⟩) (fun _ b => !gb1 b)
    (σe := ⟨[(40, .v (.bool false)), (39, .v (.int .i64 m.banks.length)), (38, .lst false (m.banks.map Bk.d)), (37, .ptr 0 4), (36, .v (.int .i64 m.banks.length)), (1, .ptr 0 0), (3, .v (.int .i64 m.banks.length))], [(0, .box m.d)], 1⟩) hlb.1 hN (by simp -dsimp only [Mc.d, EVs, ↓EVd, ↓reduceIte, zA, zB, zC, zD, zE, zF, reduceBEq, reduceCtorEq, zG, zH, zI, zJ, zK, dcells, okc]) ?_ ?_ (by simp -dsimp only [lp11x0, Mc.d, EVs, ↓EVd, ↓reduceIte, zA, zB, zC, zD, zE, zF, reduceBEq, reduceCtorEq, zG, zH, zI, zJ, zK, dcells, okc])
  · rw [allI_all] at k1
    cases ha : m.banks.all (fun b => !gb1 b)
    · obtain ⟨σ', rfl, h2⟩ := k1.2 ha
      simp -dsimp only [h2, EVs, ↓EVd, ↓reduceIte, zA, zB, zC, zD, zE, zF, reduceBEq, reduceCtorEq, zG, zH, zI, zJ, zK, dcells, okc]
    obtain rfl := k1.1 ha
    simp -dsimp only [Mc.d, EVs, ↓EVd, ↓reduceIte, zA, zB, zC, zD, zE, zF, reduceBEq, reduceCtorEq, zG, zH, zI, zJ, zK, dcells, okc]
    generalize hJ : iter _ _ _ _ = J
    have k2 := rloopJ (d := .v (.bool true)) (ret := 2) (e := 2) hJ m.instrs (fun j => ⟨[(1, .ptr 0 0), (4, .v (.int .i64 j))], [(0, .box m.d)], 1⟩) (fun _ s => giOK s)
      (σe := ⟨[(65, .v (.bool false)), (64, .v (.int .i64 m.instrs.length)), (63, .lst false (m.instrs.map Ins.d)), (62, .ptr 0 6), (61, .v (.int .i64 m.instrs.length)), (1, .ptr 0 0), (4, .v (.int .i64 m.instrs.length))], [(0, .box m.d)], 1⟩) hlb.2 hN (by simp -dsimp only [Mc.d, EVs, ↓EVd, ↓reduceIte, zA, zB, zC, zD, zE, zF, reduceBEq, reduceCtorEq, zG, zH, zI, zJ, zK, dcells, okc]) ?_ ?_ (by simp -dsimp only [lp11x3, Mc.d, EVs, ↓EVd, ↓reduceIte, zA, zB, zC, zD, zE, zF, reduceBEq, reduceCtorEq, zG, zH, zI, zJ, zK, dcells, okc])
    · rw [allI_all] at k2
      cases hb : m.instrs.all giOK
      · obtain ⟨σ', rfl, h2⟩ := k2.2 hb
        simp -dsimp only [h2, EVs, ↓EVd, ↓reduceIte, zA, zB, zC, zD, zE, zF, reduceBEq, reduceCtorEq, zG, zH, zI, zJ, zK, dcells, okc]
      obtain rfl := k2.1 hb
      have eN := @e_NodesM m (giOK_sm hh hb)
      simp only [Mc.d] at eN
      simp -dsimp only [Mc.d, hNd, eN, EVs, ↓EVd, ↓reduceIte, zA, zB, zC, zD, zE, zF, reduceBEq, reduceCtorEq, zG, zH, zI, zJ, zK, dcells, okc]
    · intro j s hj hjw hs hp
      simp only [giOK, gi1, Bool.and_eq_true, Bool.not_eq_true', Bool.or_eq_false_iff] at hp
      obtain ⟨⟨⟨p1, p2⟩, p3⟩, p4, p5⟩ := hp
      simp -dsimp only [lp11x3, Mc.d, Ins.d, hj, hs, p1, p2, p3, EVs, ↓EVd, ↓reduceIte, zA, zB, zC, zD, zE, zF, reduceBEq, reduceCtorEq, zG, zH, zI, zJ, zK, dcells, okc]
      generalize hL : iter _ _ _ _ = L
      obtain rfl := (lp4o C N hN m s j (hio s (List.mem_of_getElem? hs)).1 hL (by simp -dsimp only [Mc.d, Ins.d, EVs, ↓EVd, ↓reduceIte, zA, zB, zC, zD, zE, zF, reduceBEq, reduceCtorEq, zG, zH, zI, zJ, zK, dcells, okc])).1 p4
      simp -dsimp only [Mc.d, Ins.d, EVs, ↓EVd, ↓reduceIte, zA, zB, zC, zD, zE, zF, reduceBEq, reduceCtorEq, zG, zH, zI, zJ, zK, dcells, okc]
      generalize hL2 : iter _ _ _ _ = L2
      obtain rfl := (lp4e C N hN hG m s j (hio s (List.mem_of_getElem? hs)).2 hL2 (by simp -dsimp only [Mc.d, Ins.d, EVs, ↓EVd, ↓reduceIte, zA, zB, zC, zD, zE, zF, reduceBEq, reduceCtorEq, zG, zH, zI, zJ, zK, dcells, okc])).1 p5
      simp -dsimp only [Mc.d, Ins.d, hjw, EVs, ↓EVd, ↓reduceIte, zA, zB, zC, zD, zE, zF, reduceBEq, reduceCtorEq, zG, zH, zI, zJ, zK, dcells, okc]
    · intro j s hj hs hp
      cases p1 : decide ((14 : Int) < (s.operands.length : Int))
      case true => simp -dsimp only [EVq, lp11x3, Mc.d, Ins.d, hj, hs, p1, EVs, ↓EVd, ↓reduceIte, zA, zB, zC, zD, zE, zF, reduceBEq, reduceCtorEq, zG, zH, zI, zJ, zK, dcells, okc]
      cases p2 : decide ((14 : Int) < (s.effects.length : Int))
      case true => simp -dsimp only [EVq, lp11x3, Mc.d, Ins.d, hj, hs, p1, p2, EVs, ↓EVd, ↓reduceIte, zA, zB, zC, zD, zE, zF, reduceBEq, reduceCtorEq, zG, zH, zI, zJ, zK, dcells, okc]
      cases p3 : decide ((100 : Int) < (s.name.size : Int))
      case true => simp -dsimp only [EVq, lp11x3, Mc.d, Ins.d, hj, hs, p1, p2, p3, EVs, ↓EVd, ↓reduceIte, zA, zB, zC, zD, zE, zF, reduceBEq, reduceCtorEq, zG, zH, zI, zJ, zK, dcells, okc]
      have hg : gi1 s = false := by simp only [gi1, p1, p2, p3]; rfl
      simp only [giOK, hg, Bool.not_false, Bool.true_and] at hp
      simp -dsimp only [EVq, lp11x3, Mc.d, Ins.d, hj, hs, p1, p2, p3, EVs, ↓EVd, ↓reduceIte, zA, zB, zC, zD, zE, zF, reduceBEq, reduceCtorEq, zG, zH, zI, zJ, zK, dcells, okc]
      generalize hL : iter _ _ _ _ = L
      have ho := lp4o C N hN m s j (hio s (List.mem_of_getElem? hs)).1 hL (by simp -dsimp only [Mc.d, Ins.d, EVs, ↓EVd, ↓reduceIte, zA, zB, zC, zD, zE, zF, reduceBEq, reduceCtorEq, zG, zH, zI, zJ, zK, dcells, okc])
      cases p4 : s.operands.all (fun o => !go1 o)
      · obtain ⟨σ', rfl, h2⟩ := ho.2 p4
        simp -dsimp only [EVq, h2, EVs, ↓EVd, ↓reduceIte, zA, zB, zC, zD, zE, zF, reduceBEq, reduceCtorEq, zG, zH, zI, zJ, zK, dcells, okc]
      obtain rfl := ho.1 p4
      rw [p4, Bool.true_and] at hp
      simp -dsimp only [EVq, Mc.d, Ins.d, EVs, ↓EVd, ↓reduceIte, zA, zB, zC, zD, zE, zF, reduceBEq, reduceCtorEq, zG, zH, zI, zJ, zK, dcells, okc]
      generalize hL2 : iter _ _ _ _ = L2
      obtain ⟨σ', rfl, h2⟩ := (lp4e C N hN hG m s j (hio s (List.mem_of_getElem? hs)).2 hL2 (by simp -dsimp only [Mc.d, Ins.d, EVs, ↓EVd, ↓reduceIte, zA, zB, zC, zD, zE, zF, reduceBEq, reduceCtorEq, zG, zH, zI, zJ, zK, dcells, okc])).2 hp
      simp -dsimp only [EVq, h2, EVs, ↓EVd, ↓reduceIte, zA, zB, zC, zD, zE, zF, reduceBEq, reduceCtorEq, zG, zH, zI, zJ, zK, dcells, okc]
  · intro j b hj hjw hb hp
    simp only [gb1, Bool.not_eq_true', Bool.or_eq_false_iff] at hp
    simp -dsimp only [lp11x0, Mc.d, Bk.d, hj, hjw, hb, hp.1, hp.2, EVs, ↓EVd, ↓reduceIte, zA, zB, zC, zD, zE, zF, reduceBEq, reduceCtorEq, zG, zH, zI, zJ, zK, dcells, okc]
  · intro j b hj hb hp
    simp only [gb1, Bool.not_eq_false'] at hp
    cases c1 : decide ((74 : Int) < (b.regs.length : Int))
    · rw [c1, Bool.false_or] at hp
      simp -dsimp only [EVq, lp11x0, Mc.d, Bk.d, hj, hb, c1, hp, EVs, ↓EVd, ↓reduceIte, zA, zB, zC, zD, zE, zF, reduceBEq, reduceCtorEq, zG, zH, zI, zJ, zK, dcells, okc]
    · simp -dsimp only [EVq, lp11x0, Mc.d, Bk.d, hj, hb, c1, EVs, ↓EVd, ↓reduceIte, zA, zB, zC, zD, zE, zF, reduceBEq, reduceCtorEq, zG, zH, zI, zJ, zK, dcells, okc]
end Go.Proofs.Dv
set_option linter.unusedVariables false
set_option linter.unusedSimpArgs false
set_option maxRecDepth 100000
namespace Go.Proofs.Dv
open Go.RowKit
open Nat renaming reduceEqDiff → zA, reduceAdd → zB, reduceSub → zC, reduceLeDiff → zD, reduceLT → zE, reduceMul → zF
open Int renaming reduceToNat → zG, reduceLE → zH, reduceLT → zI
open List renaming set_cons_zero → zJ, set_cons_succ → zK
mutual
theorem T.tw_wf : ∀ t : T, t.tw → t.wf ∧ ∀ u ∈ t.pre, 0 ≤ u.kind
  | .mk k w b n l s, h => by
    rw [T.tw] at h
    obtain ⟨h1, h2⟩ := T.tws_wf s h.2.2.2.2
    refine ⟨by rw [T.wf]; exact ⟨h.2.2.1, h1⟩, fun u hu => ?_⟩
    rw [T.pre_eq] at hu
    rcases List.mem_cons.1 hu with rfl | hu
    · exact h.1
    · exact h2 u hu
theorem T.tws_wf : ∀ s : List T, T.tws s → T.wfs s ∧ ∀ u ∈ T.pres s, 0 ≤ u.kind
  | [], _ => ⟨by rw [T.wfs]; trivial, fun u hu => by rw [T.pres] at hu; simp at hu⟩
  | t :: ts, h => by
    rw [T.tws] at h
    obtain ⟨h1, h2⟩ := T.tw_wf t h.1
    obtain ⟨h3, h4⟩ := T.tws_wf ts h.2
    refine ⟨by rw [T.wfs]; exact ⟨h1, h3⟩, fun u hu => ?_⟩
    rw [pres_cons] at hu
    rcases List.mem_append.1 hu with hu | hu
    · exact h2 u hu
    · exact h4 u hu
end
theorem great_terms {m : Mc} (hg : greatM m = false) (ht : m.tw) (hl : lenOK.lenOKs m.d) : MZ m ∧ ∀ i ∈ m.instrs, ∀ e ∈ i.effects, TOK e.addr ∧ TOK e.value ∧ TOK e.cond := by
  unfold greatM at hg
  cases h1 : gHead m with
  | true => rw [h1] at hg; simp at hg
  | false =>
    rw [h1, cond_false] at hg
    cases h2 : m.banks.all (fun b => !gb1 b) with
    | false => rw [h2] at hg; simp at hg
    | true =>
      rw [h2] at hg
      simp only [Bool.not_true, cond_false] at hg
      cases h3 : m.instrs.all giOK with
      | false => rw [h3] at hg; simp at hg
      | true =>
        obtain ⟨_, hsm⟩ := giOK_sm h1 h3
        have hll : ∀ i ∈ m.instrs, ∀ e ∈ i.effects, lenOK.lenOKs e.addr.d ∧ lenOK.lenOKs e.value.d ∧ lenOK.lenOKs e.cond.d := by
          intro i hi e he
          simp only [Mc.d, EVl, List.length_map] at hl
          have h4 := (lenOKss_iff.1 hl.2.2.2.2.2.2.1.2) _ (List.mem_map_of_mem hi)
          simp only [Ins.d, EVl, List.length_map] at h4
          have h5 := (lenOKss_iff.1 h4.2.2.2.2.1.2) _ (List.mem_map_of_mem he)
          rw [lenOKs_iff] at h5
          refine ⟨lenOKs_iff.2 fun d hd => h5 d ?_, lenOKs_iff.2 fun d hd => h5 d ?_, lenOKs_iff.2 fun d hd => h5 d ?_⟩ <;> simp [Ef.d, hd]
        refine ⟨fun i hi => ⟨(ht.1 i hi).1, (ht.1 i hi).2.1, fun e he => ?_⟩, fun i hi e he => ?_⟩
        · obtain ⟨⟨a1, a2⟩, ⟨b1, b2⟩, c1, c2⟩ := (hsm i hi).2 e he
          obtain ⟨d1, d2, d3⟩ := (ht.1 i hi).2.2 e he
          exact ⟨⟨by omega, by omega, (T.tw_wf _ d1).1⟩, ⟨by omega, by omega, (T.tw_wf _ d2).1⟩, by omega, by omega, (T.tw_wf _ d3).1⟩
        · obtain ⟨⟨a1, a2⟩, ⟨b1, b2⟩, c1, c2⟩ := (hsm i hi).2 e he
          obtain ⟨d1, d2, d3⟩ := (ht.1 i hi).2.2 e he
          obtain ⟨l1, l2, l3⟩ := hll i hi e he
          exact ⟨⟨by omega, by omega, (T.tw_wf _ d1).2, l1⟩, ⟨by omega, by omega, (T.tw_wf _ d2).2, l2⟩, by omega, by omega, (T.tw_wf _ d3).2, l3⟩
end Go.Proofs.Dv
set_option linter.unusedVariables false
set_option linter.unusedSimpArgs false
set_option maxRecDepth 100000
namespace Go.Proofs.Dv
open Go.RowKit
open Nat renaming reduceEqDiff → zA, reduceAdd → zB, reduceSub → zC, reduceLeDiff → zD, reduceLT → zE, reduceMul → zF
open Int renaming reduceToNat → zG, reduceLE → zH, reduceLT → zI
open List renaming set_cons_zero → zJ, set_cons_succ → zK
def idxP {α : Type} (p : α → Bool) (l : List α) : Int := match scan (tst (fun _ y => !p y) (fun (i : Nat) _ => i + 1) (fun i _ => (i : Int))) 0 l with
  | .go _ => -1
  | .out k => k
def findD (c i : Int) : D := .tup [.v (.int .i64 (bif decide (c = 0) then (bif decide (i < 0) then 0 else i) else 0)), .v (.int .i64 (bif decide (c = 0) then (bif decide (i < 0) then 6 else 0) else c))]
def TOKs (m : Mc) : Prop := ∀ i ∈ m.instrs, ∀ e ∈ i.effects, TOK e.addr ∧ TOK e.value ∧ TOK e.cond
theorem c_clR (C : Ctx) (N : Nat) (r : Rg) (s : ByteArray) (id nx : Nat) (hp : List (Nat × Blk)) (hk : Hk nx hp) (hid : id < nx) (hl : lkh hp id = some (.box [.v (.string s)])) :
    gcr nx (run C N ir81 [.agg r.d, .ptr id 0] hp nx) = some (.v (.bool (decide (r.name = s))), hp, nx) := by
  have h1 : (id = nx) = False := by simp; omega
  have ha := hk.a
  have hb := hk.b
  simp -dsimp only [run_eq, ir81, Rg.d, hl, h1, ha, hb, EVs, ↓EVd, ↓reduceIte, zA, zB, zC, zD, zE, zF, reduceBEq, reduceCtorEq, zG, zH, zI, zJ, zK, dcells, okc]
theorem c_clI (C : Ctx) (N : Nat) (r : Ins) (s : ByteArray) (id nx : Nat) (hp : List (Nat × Blk)) (hk : Hk nx hp) (hid : id < nx) (hl : lkh hp id = some (.box [.v (.string s)])) :
    gcr nx (run C N ir83 [.agg r.d, .ptr id 0] hp nx) = some (.v (.bool (decide (r.name = s))), hp, nx) := by
  have h1 : (id = nx) = False := by simp; omega
  have ha := hk.a
  have hb := hk.b
  simp -dsimp only [run_eq, ir83, Ins.d, hl, h1, ha, hb, EVs, ↓EVd, ↓reduceIte, zA, zB, zC, zD, zE, zF, reduceBEq, reduceCtorEq, zG, zH, zI, zJ, zK, dcells, okc]
theorem c_IdxFR (C : Ctx) (N : Nat) (hN : maxLen + 10 < N) (f : Nat) (hT : C.T f = none) (p : Rg → Bool)
    (ts : List Rg) (b : Bool) (id nx : Nat) (hp : List (Nat × Blk)) (hk : Hk nx hp) (hid : id < nx) (hcal : ∀ t : Rg, C.cal f [.agg t.d, .ptr id 0] hp nx = some (.v (.bool (p t)), hp, nx)) (hl' : ts.length ≤ maxLen) :
    gcr nx (run C N ir121 [.lst b (ts.map Rg.d), .fn f [.ptr id 0]] hp nx) = some (.v (.int .i64 (idxP p ts)), hp, nx) := by
  have ha := hk.a
  have hb := hk.b
  have h1 : decide (id < nx) = true := decide_eq_true hid
  simp -dsimp only [run_eq, ir121, EVs, ↓EVd, ↓reduceIte, zA, zB, zC, zD, zE, zF, reduceBEq, reduceCtorEq, zG, zH, zI, zJ, zK, dcells, okc]
  generalize hI : iter _ _ _ _ = I
  revert I
  refine iter_test ts (fun i _ => ⟨[(0, .lst b (ts.map Rg.d)), (1, .fn f [.ptr id 0]), (7, .v (.int .i64 ts.length)), (8, .v (.int .i64 i))], hp, nx⟩) (fun (_ : Nat) y => !p y) (fun i _ => i + 1) (fun i _ => (i : Int)) (fun i a => a = i) 0 hl' hN ?_ rfl ?_ ?_ ?_
  · simp -dsimp only [ha, hb, h1, EVs, ↓EVd, ↓reduceIte, zA, zB, zC, zD, zE, zF, reduceBEq, reduceCtorEq, zG, zH, zI, zJ, zK, dcells, okc]
  · rintro _ i y hi hw hy rfl
    refine ⟨?_, fun _ => rfl⟩
    have hc := hcal y
    simp only [Rg.d] at hc
    simp -dsimp only [lp121x0, hi, hw, hy, Rg.d, hT, hc, ha, hb, h1, EVs, ↓EVd, ↓reduceIte, zA, zB, zC, zD, zE, zF, reduceBEq, reduceCtorEq, zG, zH, zI, zJ, zK, dcells, okc]
    repeat' ((first | with_reducible refine gb_split (fun _ => ?_) (fun _ => ?_) | with_reducible refine gb_splitr (fun _ => ?_) (fun _ => ?_)) <;> (try simp -dsimp only [lp121x0, hi, hw, hy, Rg.d, hT, hc, ha, hb, h1, EVs, ↓EVd, ↓reduceIte, zA, zB, zC, zD, zE, zF, reduceBEq, reduceCtorEq, zG, zH, zI, zJ, zK, dcells, okc, *]))
  · rintro _ i y hi hy rfl hs
    have hc := hcal y
    simp only [Rg.d] at hc
    simp -dsimp only [lp121x0, hi, hy, Rg.d, hT, hc, idxP, hs, ha, hb, EVs, ↓EVd, ↓reduceIte, zA, zB, zC, zD, zE, zF, reduceBEq, reduceCtorEq, zG, zH, zI, zJ, zK, dcells, okc]
    repeat' ((first | with_reducible refine gb_split (fun _ => ?_) (fun _ => ?_) | with_reducible refine gb_splitr (fun _ => ?_) (fun _ => ?_)) <;> (try simp -dsimp only [lp121x0, hi, hy, Rg.d, hT, hc, idxP, hs, ha, hb, EVs, ↓EVd, ↓reduceIte, zA, zB, zC, zD, zE, zF, reduceBEq, reduceCtorEq, zG, zH, zI, zJ, zK, dcells, okc, *]))
  · rintro _ rfl hs
    simp -dsimp only [lp121x0, idxP, hs, ha, hb, EVs, ↓EVd, ↓reduceIte, zA, zB, zC, zD, zE, zF, reduceBEq, reduceCtorEq, zG, zH, zI, zJ, zK, dcells, okc]
theorem c_IdxFI (C : Ctx) (N : Nat) (hN : maxLen + 10 < N) (f : Nat) (hT : C.T f = none) (p : Ins → Bool)
    (ts : List Ins) (b : Bool) (id nx : Nat) (hp : List (Nat × Blk)) (hk : Hk nx hp) (hid : id < nx) (hcal : ∀ t : Ins, C.cal f [.agg t.d, .ptr id 0] hp nx = some (.v (.bool (p t)), hp, nx)) (hl' : ts.length ≤ maxLen) :
    gcr nx (run C N ir122 [.lst b (ts.map Ins.d), .fn f [.ptr id 0]] hp nx) = some (.v (.int .i64 (idxP p ts)), hp, nx) := by
  have ha := hk.a
  have hb := hk.b
  have h1 : decide (id < nx) = true := decide_eq_true hid
  simp -dsimp only [run_eq, ir122, EVs, ↓EVd, ↓reduceIte, zA, zB, zC, zD, zE, zF, reduceBEq, reduceCtorEq, zG, zH, zI, zJ, zK, dcells, okc]
  generalize hI : iter _ _ _ _ = I
  revert I
  refine iter_test ts (fun i _ => ⟨[(0, .lst b (ts.map Ins.d)), (1, .fn f [.ptr id 0]), (7, .v (.int .i64 ts.length)), (8, .v (.int .i64 i))], hp, nx⟩) (fun (_ : Nat) y => !p y) (fun i _ => i + 1) (fun i _ => (i : Int)) (fun i a => a = i) 0 hl' hN ?_ rfl ?_ ?_ ?_
  · simp -dsimp only [ha, hb, h1, EVs, ↓EVd, ↓reduceIte, zA, zB, zC, zD, zE, zF, reduceBEq, reduceCtorEq, zG, zH, zI, zJ, zK, dcells, okc]
  · rintro _ i y hi hw hy rfl
    refine ⟨?_, fun _ => rfl⟩
    have hc := hcal y
    simp only [Ins.d] at hc
    simp -dsimp only [lp122x0, hi, hw, hy, Ins.d, hT, hc, ha, hb, h1, EVs, ↓EVd, ↓reduceIte, zA, zB, zC, zD, zE, zF, reduceBEq, reduceCtorEq, zG, zH, zI, zJ, zK, dcells, okc]
    repeat' ((first | with_reducible refine gb_split (fun _ => ?_) (fun _ => ?_) | with_reducible refine gb_splitr (fun _ => ?_) (fun _ => ?_)) <;> (try simp -dsimp only [lp122x0, hi, hw, hy, Ins.d, hT, hc, ha, hb, h1, EVs, ↓EVd, ↓reduceIte, zA, zB, zC, zD, zE, zF, reduceBEq, reduceCtorEq, zG, zH, zI, zJ, zK, dcells, okc, *]))
  · rintro _ i y hi hy rfl hs
    have hc := hcal y
    simp only [Ins.d] at hc
    simp -dsimp only [lp122x0, hi, hy, Ins.d, hT, hc, idxP, hs, ha, hb, EVs, ↓EVd, ↓reduceIte, zA, zB, zC, zD, zE, zF, reduceBEq, reduceCtorEq, zG, zH, zI, zJ, zK, dcells, okc]
    repeat' ((first | with_reducible refine gb_split (fun _ => ?_) (fun _ => ?_) | with_reducible refine gb_splitr (fun _ => ?_) (fun _ => ?_)) <;> (try simp -dsimp only [lp122x0, hi, hy, Ins.d, hT, hc, idxP, hs, ha, hb, EVs, ↓EVd, ↓reduceIte, zA, zB, zC, zD, zE, zF, reduceBEq, reduceCtorEq, zG, zH, zI, zJ, zK, dcells, okc, *]))
  · rintro _ rfl hs
    simp -dsimp only [lp122x0, idxP, hs, ha, hb, EVs, ↓EVd, ↓reduceIte, zA, zB, zC, zD, zE, zF, reduceBEq, reduceCtorEq, zG, zH, zI, zJ, zK, dcells, okc]
def hS (m : Mc) (s : ByteArray) : List (Nat × Blk) := [(1, .box [.v (.string s)]), (0, .box m.d)]
theorem hS_hk (m : Mc) (s : ByteArray) : Hk 3 ((2, .box m.d) :: hS m s) := ⟨by simp -dsimp only [hS, Mc.d, EVs, ↓EVd, ↓reduceIte, zA, zB, zC, zD, zE, zF, reduceBEq, reduceCtorEq, zG, zH, zI, zJ, zK, dcells, okc], by simp -dsimp only [hS, Mc.d, EVs, ↓EVd, ↓reduceIte, zA, zB, zC, zD, zE, zF, reduceBEq, reduceCtorEq, zG, zH, zI, zJ, zK, dcells, okc]⟩
theorem c_findR (C : Ctx) (N : Nat) (m : Mc) (s : ByteArray) (k : Int) (t1 : TOKs m) (hM : C.T 14 = some s_ChkM) (hT : C.T 121 = none)
    (hcal : C.cal 121 [.lst false (m.regs.map Rg.d), .fn 81 [.ptr 1 0]] ((2, .box m.d) :: hS m s) 3 = some (.v (.int .i64 k), (2, .box m.d) :: hS m s, 3)) :
    gcr 2 (run C N ir80 [.agg m.d, .lst false (m.regs.map Rg.d), .fn 81 [.ptr 1 0]] (hS m s) 2) = some (findD (chkM m) k, hS m s, 2) := by
  have eM := @e_ChkM m t1
  simp only [Mc.d, hS] at eM hcal
  unfold findD
  cases h0 : decide (chkM m = 0)
  · simp -dsimp only [run_eq, ir80, hS, Mc.d, hM, eM, h0, EVs, ↓EVd, ↓reduceIte, zA, zB, zC, zD, zE, zF, reduceBEq, reduceCtorEq, zG, zH, zI, zJ, zK, dcells, okc]
  have h0' : chkM m = 0 := by simpa using h0
  cases h1 : decide (k < 0)
  · simp -dsimp only [run_eq, ir80, hS, Mc.d, hM, eM, h0, h0', hT, hcal, h1, EVs, ↓EVd, ↓reduceIte, zA, zB, zC, zD, zE, zF, reduceBEq, reduceCtorEq, zG, zH, zI, zJ, zK, dcells, okc]
  · simp -dsimp only [run_eq, ir80, hS, Mc.d, hM, eM, h0, h0', hT, hcal, h1, EVs, ↓EVd, ↓reduceIte, zA, zB, zC, zD, zE, zF, reduceBEq, reduceCtorEq, zG, zH, zI, zJ, zK, dcells, okc]
theorem c_findI (C : Ctx) (N : Nat) (m : Mc) (s : ByteArray) (k : Int) (t1 : TOKs m) (hM : C.T 14 = some s_ChkM) (hT : C.T 122 = none)
    (hcal : C.cal 122 [.lst false (m.instrs.map Ins.d), .fn 83 [.ptr 1 0]] ((2, .box m.d) :: hS m s) 3 = some (.v (.int .i64 k), (2, .box m.d) :: hS m s, 3)) :
    gcr 2 (run C N ir82 [.agg m.d, .lst false (m.instrs.map Ins.d), .fn 83 [.ptr 1 0]] (hS m s) 2) = some (findD (chkM m) k, hS m s, 2) := by
  have eM := @e_ChkM m t1
  simp only [Mc.d, hS] at eM hcal
  unfold findD
  cases h0 : decide (chkM m = 0)
  · simp -dsimp only [run_eq, ir82, hS, Mc.d, hM, eM, h0, EVs, ↓EVd, ↓reduceIte, zA, zB, zC, zD, zE, zF, reduceBEq, reduceCtorEq, zG, zH, zI, zJ, zK, dcells, okc]
  have h0' : chkM m = 0 := by simpa using h0
  cases h1 : decide (k < 0)
  · simp -dsimp only [run_eq, ir82, hS, Mc.d, hM, eM, h0, h0', hT, hcal, h1, EVs, ↓EVd, ↓reduceIte, zA, zB, zC, zD, zE, zF, reduceBEq, reduceCtorEq, zG, zH, zI, zJ, zK, dcells, okc]
  · simp -dsimp only [run_eq, ir82, hS, Mc.d, hM, eM, h0, h0', hT, hcal, h1, EVs, ↓EVd, ↓reduceIte, zA, zB, zC, zD, zE, zF, reduceBEq, reduceCtorEq, zG, zH, zI, zJ, zK, dcells, okc]
def regI (m : Mc) (s : ByteArray) : Int := idxP (fun r : Rg => decide (r.name = s)) m.regs
def insI (m : Mc) (s : ByteArray) : Int := idxP (fun r : Ins => decide (r.name = s)) m.instrs
def x_RegF (a : Mc × ByteArray) : List D := match a with | (m, s) => [.agg m.d, .v (.string s)]
theorem i_RegF : ∀ a b, x_RegF a = x_RegF b → a = b := by
  rintro ⟨m, s⟩ ⟨m', s'⟩ h
  first | simpa [x_RegF, INJ, and_assoc, Int.ofNat_inj] using h | (simp [x_RegF, INJ, and_assoc, Int.ofNat_inj] at h; simp_all)
open Classical in
noncomputable def s_RegF : List D → Option D := sOf x_RegF fun a => match a with | (m, s) => if (TOKs m) then some (findD (chkM m) (regI m s)) else none
theorem e_RegF {m : Mc} {s : ByteArray} (hc : (TOKs m)) : s_RegF [.agg m.d, .v (.string s)] = some (findD (chkM m) (regI m s)) := (sOf_eq i_RegF (m, s)).trans (if_pos hc)
theorem R_RegF {C : Ctx} {F : IFun} (hspec : ∀ N, maxLen + 10 < N → ∀ (m : Mc) (s : ByteArray), lenOK.lenOKs [.agg m.d, .v (.string s)] → (TOKs m) → runE C N F [.agg m.d, .v (.string s)] = some (findD (chkM m) (regI m s))) : Runs C F (s_RegF) := runs_of i_RegF fun N hN a r hl hf => by
  obtain ⟨m, s⟩ := a
  simp only [Option.ite_none_right_eq_some, Option.some.injEq] at hf
  obtain ⟨hc, rfl⟩ := hf
  exact hspec N hN m s hl hc
theorem r_Register (C : Ctx) (hT : C.T 80 = none) (hcal : ∀ (m : Mc) (s : ByteArray), TOKs m → m.regs.length ≤ maxLen → C.cal 80 [.agg m.d, .lst false (m.regs.map Rg.d), .fn 81 [.ptr 1 0]] (hS m s) 2 = some (findD (chkM m) (regI m s), hS m s, 2)) : Runs C ir18 s_RegF := R_RegF fun N hN m s hl hc => by
  have hll : m.regs.length ≤ maxLen := by simp only [Mc.d, EVl, List.length_map] at hl; exact hl.1.2.2.2.1.1
  have h1 := hcal m s hc hll
  simp only [Mc.d, hS, findD] at h1
  simp -dsimp only [runE, run_eq, ir18, Mc.d, hT, h1, findD, EVs, ↓EVd, ↓reduceIte, zA, zB, zC, zD, zE, zF, reduceBEq, reduceCtorEq, zG, zH, zI, zJ, zK, dcells, okc]
def x_InsF (a : Mc × ByteArray) : List D := match a with | (m, s) => [.agg m.d, .v (.string s)]
theorem i_InsF : ∀ a b, x_InsF a = x_InsF b → a = b := by
  rintro ⟨m, s⟩ ⟨m', s'⟩ h
  first | simpa [x_InsF, INJ, and_assoc, Int.ofNat_inj] using h | (simp [x_InsF, INJ, and_assoc, Int.ofNat_inj] at h; simp_all)
open Classical in
noncomputable def s_InsF : List D → Option D := sOf x_InsF fun a => match a with | (m, s) => if (TOKs m) then some (findD (chkM m) (insI m s)) else none
theorem e_InsF {m : Mc} {s : ByteArray} (hc : (TOKs m)) : s_InsF [.agg m.d, .v (.string s)] = some (findD (chkM m) (insI m s)) := (sOf_eq i_InsF (m, s)).trans (if_pos hc)
theorem R_InsF {C : Ctx} {F : IFun} (hspec : ∀ N, maxLen + 10 < N → ∀ (m : Mc) (s : ByteArray), lenOK.lenOKs [.agg m.d, .v (.string s)] → (TOKs m) → runE C N F [.agg m.d, .v (.string s)] = some (findD (chkM m) (insI m s))) : Runs C F (s_InsF) := runs_of i_InsF fun N hN a r hl hf => by
  obtain ⟨m, s⟩ := a
  simp only [Option.ite_none_right_eq_some, Option.some.injEq] at hf
  obtain ⟨hc, rfl⟩ := hf
  exact hspec N hN m s hl hc
theorem r_Instruction (C : Ctx) (hT : C.T 82 = none) (hcal : ∀ (m : Mc) (s : ByteArray), TOKs m → m.instrs.length ≤ maxLen → C.cal 82 [.agg m.d, .lst false (m.instrs.map Ins.d), .fn 83 [.ptr 1 0]] (hS m s) 2 = some (findD (chkM m) (insI m s), hS m s, 2)) : Runs C ir20 s_InsF := R_InsF fun N hN m s hl hc => by
  have hll : m.instrs.length ≤ maxLen := by simp only [Mc.d, EVl, List.length_map] at hl; exact hl.1.2.2.2.2.2.2.1.1
  have h1 := hcal m s hc hll
  simp only [Mc.d, hS, findD] at h1
  simp -dsimp only [runE, run_eq, ir20, Mc.d, hT, h1, findD, EVs, ↓EVd, ↓reduceIte, zA, zB, zC, zD, zE, zF, reduceBEq, reduceCtorEq, zG, zH, zI, zJ, zK, dcells, okc]
end Go.Proofs.Dv
set_option linter.unusedVariables false
set_option linter.unusedSimpArgs false
set_option maxRecDepth 100000
namespace Go.Proofs.Dv
open Go.RowKit
open Nat renaming reduceEqDiff → zA, reduceAdd → zB, reduceSub → zC, reduceLeDiff → zD, reduceLT → zE, reduceMul → zF
open Int renaming reduceToNat → zG, reduceLE → zH, reduceLT → zI
open List renaming set_cons_zero → zJ, set_cons_succ → zK
def topsAux : Nat → List Rg → List Int
  | _, [] => []
  | i, r :: rs => if r.of_ = -1 then (i : Int) :: topsAux (i + 1) rs else topsAux (i + 1) rs
def topsL (m : Mc) : List Int := topsAux 0 m.regs
def topStep (a : Nat × List Int) (r : Rg) : Nat × List Int := (a.1 + 1, if r.of_ = -1 then a.2 ++ [(a.1 : Int)] else a.2)
theorem tops_fold : ∀ (rs : List Rg) (i : Nat) (l : List Int), (rs.foldl topStep (i, l)).2 = l ++ topsAux i rs
  | [], i, l => by simp [topsAux]
  | r :: rs, i, l => by
    rw [List.foldl_cons, topsAux]
    by_cases h : r.of_ = -1
    · rw [if_pos h, topStep, if_pos h, tops_fold rs]; simp
    · rw [if_neg h, topStep, if_neg h, tops_fold rs]
theorem tops_mem {x : Int} : ∀ (rs : List Rg) (k : Nat), x ∈ topsAux k rs ↔ ∃ (j : Nat) (r : Rg), rs[j]? = some r ∧ r.of_ = -1 ∧ x = ((k + j : Nat) : Int)
  | [], k => by simp [topsAux]
  | r :: rs, k => by
    rw [topsAux]
    have ih := tops_mem (x := x) rs (k + 1)
    constructor
    · intro h
      have h2 : (r.of_ = -1 ∧ x = (k : Int)) ∨ x ∈ topsAux (k + 1) rs := by
        split at h
        · rename_i hr
          rcases List.mem_cons.1 h with h | h
          · exact .inl ⟨hr, h⟩
          · exact .inr h
        · exact .inr h
      rcases h2 with ⟨hr, hx⟩ | h2
      · exact ⟨0, r, rfl, hr, hx⟩
      · obtain ⟨j, q, h3, h4, h5⟩ := ih.1 h2
        exact ⟨j + 1, q, by simpa using h3, h4, by rw [h5]; congr 1; omega⟩
    · rintro ⟨j, q, h3, h4, h5⟩
      cases j with
      | zero =>
        simp only [List.getElem?_cons_zero, Option.some.injEq] at h3
        subst h3
        rw [if_pos h4, h5]
        exact List.mem_cons_self
      | succ j =>
        have : x ∈ topsAux (k + 1) rs := ih.2 ⟨j, q, by simpa using h3, h4, by rw [h5]; congr 1; omega⟩
        split
        · exact List.mem_cons_of_mem _ this
        · exact this
theorem tops_sorted : ∀ (rs : List Rg) (k : Nat), (topsAux k rs).Pairwise (fun a b => a < b)
  | [], k => by rw [topsAux]; exact List.Pairwise.nil
  | r :: rs, k => by
    rw [topsAux]
    split
    · refine List.pairwise_cons.2 ⟨fun x hx => ?_, tops_sorted rs (k + 1)⟩
      obtain ⟨j, _, _, _, h⟩ := (tops_mem rs (k + 1)).1 hx
      rw [h]; omega
    · exact tops_sorted rs (k + 1)
theorem tops_len : ∀ (rs : List Rg) (k : Nat), (topsAux k rs).length ≤ rs.length
  | [], k => by simp [topsAux]
  | r :: rs, k => by
    rw [topsAux]
    have := tops_len rs (k + 1)
    split <;> simp only [List.length_cons] <;> omega
def x_TopsF (a : Mc) : List D := match a with | m => [.agg m.d]
theorem i_TopsF : ∀ a b, x_TopsF a = x_TopsF b → a = b := by
  rintro m m' h
  first | simpa [x_TopsF, INJ, and_assoc, Int.ofNat_inj] using h | (simp [x_TopsF, INJ, and_assoc, Int.ofNat_inj] at h; simp_all)
open Classical in
noncomputable def s_TopsF : List D → Option D := sOf x_TopsF fun a => match a with | m => if (m.regs.length ≤ 1000) then some (.lst false ((topsL m).map iD)) else none
theorem e_TopsF {m : Mc} (hc : (m.regs.length ≤ 1000)) : s_TopsF [.agg m.d] = some (.lst false ((topsL m).map iD)) := (sOf_eq i_TopsF m).trans (if_pos hc)
theorem R_TopsF {C : Ctx} {F : IFun} (hspec : ∀ N, maxLen + 10 < N → ∀ (m : Mc), lenOK.lenOKs [.agg m.d] → (m.regs.length ≤ 1000) → runE C N F [.agg m.d] = some (.lst false ((topsL m).map iD))) : Runs C F (s_TopsF) := runs_of i_TopsF fun N hN m r hl hf => by
  simp only [Option.ite_none_right_eq_some, Option.some.injEq] at hf
  obtain ⟨hc, rfl⟩ := hf
  exact hspec N hN m hl hc
theorem r_tops (C : Ctx) : Runs C ir84 s_TopsF := R_TopsF fun N hN m hl hc => by
  have hml := maxLen_ge
  have e0 : topsL m = (m.regs.foldl topStep (0, [])).2 := by rw [tops_fold]; rfl
  rw [e0]
  simp -dsimp only [runE, run_eq, ir84, Mc.d, EVs, ↓EVd, ↓reduceIte, zA, zB, zC, zD, zE, zF, reduceBEq, reduceCtorEq, zG, zH, zI, zJ, zK, dcells, okc]
  generalize hI : iter _ _ _ _ = I
  revert I
  refine iter_all m.regs (fun j a => ⟨[(3, .own 1 a.2.length), (7, .lst false (m.regs.map Rg.d)), (8, .v (.int .i64 m.regs.length)), (9, .v (.int .i64 j))], [(1, .row 1 (a.2.map iD)), (0, .box m.d)], 2⟩) topStep (fun j a => a.1 = j ∧ a.2.length ≤ j) (0, []) (by omega) hN ?_ ⟨rfl, Nat.le_refl _⟩ ?_ ?_
  · simp -dsimp only [Mc.d, EVs, ↓EVd, ↓reduceIte, zA, zB, zC, zD, zE, zF, reduceBEq, reduceCtorEq, zG, zH, zI, zJ, zK, dcells, okc]
  · rintro j ⟨a, l⟩ r hj hjw hr ⟨h1, h2⟩
    simp only at h1 h2
    subst h1
    have hil := (List.getElem?_eq_some_iff.1 hr).1
    have hb' : decide ((l.length + 1) * 8 ≤ 140737488355328) = true := decide_eq_true (by omega)
    refine ⟨?_, rfl, ?_⟩
    · by_cases h : r.of_ = -1
      · have h' : decide (r.of_ = -1) = true := decide_eq_true h
        have hst : topStep (a, l) r = (a + 1, l ++ [(a : Int)]) := by simp only [topStep, if_pos h]
        rw [hst]
        simp -dsimp only [lp84x0, Mc.d, Rg.d, iD, hj, hjw, hr, h', hb', List.length_append, List.map_append, EVs, ↓EVd, ↓reduceIte, zA, zB, zC, zD, zE, zF, reduceBEq, reduceCtorEq, zG, zH, zI, zJ, zK, dcells, okc]
      · have h' : decide (r.of_ = -1) = false := decide_eq_false h
        have hst : topStep (a, l) r = (a + 1, l) := by simp only [topStep, if_neg h]
        rw [hst]
        simp -dsimp only [lp84x0, Mc.d, Rg.d, iD, hj, hjw, hr, h', EVs, ↓EVd, ↓reduceIte, zA, zB, zC, zD, zE, zF, reduceBEq, reduceCtorEq, zG, zH, zI, zJ, zK, dcells, okc]
    · unfold topStep
      simp only
      split
      · simp only [List.length_append, List.length_singleton]; omega
      · omega
  · rintro ⟨h1, h2⟩
    simp -dsimp only [lp84x0, Mc.d, EVs, ↓EVd, ↓reduceIte, zA, zB, zC, zD, zE, zF, reduceBEq, reduceCtorEq, zG, zH, zI, zJ, zK, dcells, okc]
def rootsD (m : Mc) (c : Int) : D := .tup [if c = 0 then .lst false ((topsL m).map iD) else .lst true [], .v (.int .i64 c)]
theorem chkM_regs {m : Mc} (h : chkM m = 0) : m.regs.length ≤ 64 := by
  unfold chkM at h
  cases hs : smallOK m with
  | false => rw [hs] at h; simp at h
  | true =>
    simp only [smallOK, Bool.and_eq_true] at hs
    have := fewB_le hs.1.1.1.1
    omega
theorem chkR_regs {m : Mc} (h : chkR m = 0) : m.regs.length ≤ 64 := by
  unfold chkR at h
  cases hs : smallOK m with
  | false => rw [hs] at h; simp at h
  | true =>
    simp only [smallOK, Bool.and_eq_true] at hs
    have := fewB_le hs.1.1.1.1
    omega
def x_RootsF (a : Mc) : List D := match a with | m => [.agg m.d]
theorem i_RootsF : ∀ a b, x_RootsF a = x_RootsF b → a = b := by
  rintro m m' h
  first | simpa [x_RootsF, INJ, and_assoc, Int.ofNat_inj] using h | (simp [x_RootsF, INJ, and_assoc, Int.ofNat_inj] at h; simp_all)
open Classical in
noncomputable def s_RootsF : List D → Option D := sOf x_RootsF fun a => match a with | m => if (TOKs m) then some (rootsD m (chkM m)) else none
theorem e_RootsF {m : Mc} (hc : (TOKs m)) : s_RootsF [.agg m.d] = some (rootsD m (chkM m)) := (sOf_eq i_RootsF m).trans (if_pos hc)
theorem R_RootsF {C : Ctx} {F : IFun} (hspec : ∀ N, maxLen + 10 < N → ∀ (m : Mc), lenOK.lenOKs [.agg m.d] → (TOKs m) → runE C N F [.agg m.d] = some (rootsD m (chkM m))) : Runs C F (s_RootsF) := runs_of i_RootsF fun N hN m r hl hf => by
  simp only [Option.ite_none_right_eq_some, Option.some.injEq] at hf
  obtain ⟨hc, rfl⟩ := hf
  exact hspec N hN m hl hc
theorem r_Roots (C : Ctx) (hM : C.T 14 = some s_ChkM) (hT : C.T 84 = some s_TopsF) : Runs C ir22 s_RootsF := R_RootsF fun N hN m hl hc => by
  have eM := @e_ChkM m hc
  simp only [Mc.d] at eM
  unfold rootsD
  cases h0 : decide (chkM m = 0)
  · rw [if_neg (by simpa using h0)]
    simp -dsimp only [runE, run_eq, ir22, Mc.d, hM, eM, h0, EVs, ↓EVd, ↓reduceIte, zA, zB, zC, zD, zE, zF, reduceBEq, reduceCtorEq, zG, zH, zI, zJ, zK, dcells, okc]
  · have h0' : chkM m = 0 := by simpa using h0
    have eT := @e_TopsF m (by have := chkM_regs h0'; omega)
    simp only [Mc.d] at eT
    rw [if_pos h0']
    simp -dsimp only [runE, run_eq, ir22, Mc.d, hM, eM, h0, h0', hT, eT, EVs, ↓EVd, ↓reduceIte, zA, zB, zC, zD, zE, zF, reduceBEq, reduceCtorEq, zG, zH, zI, zJ, zK, dcells, okc]
def x_NaN (a : Int) : List D := match a with | x => [.v (.int .i64 x)]
theorem i_NaN : ∀ a b, x_NaN a = x_NaN b → a = b := by
  rintro x x' h
  first | simpa [x_NaN, INJ, and_assoc, Int.ofNat_inj] using h | (simp [x_NaN, INJ, and_assoc, Int.ofNat_inj] at h; simp_all)
noncomputable def s_NaN : List D → Option D := sOf x_NaN fun a => match a with | x => some (.v (.bool false))
theorem e_NaN {x : Int} : s_NaN [.v (.int .i64 x)] = some (.v (.bool false)) := sOf_eq i_NaN x
theorem R_NaN {C : Ctx} {F : IFun} (hspec : ∀ N, maxLen + 10 < N → ∀ (x : Int), lenOK.lenOKs [.v (.int .i64 x)] → runE C N F [.v (.int .i64 x)] = some (.v (.bool false))) : Runs C F s_NaN := runs_of i_NaN fun N hN x r hl hf => by
  simp only [Option.some.injEq] at hf
  subst hf
  exact hspec N hN x hl
theorem r_isNaNc (C : Ctx) : Runs C ir158 s_NaN := R_NaN fun N hN x hl => by
  have hd : decide (x = x) = true := decide_eq_true rfl
  simp -dsimp only [runE, run_eq, ir158, hd, EVs, ↓EVd, ↓reduceIte, zA, zB, zC, zD, zE, zF, reduceBEq, reduceCtorEq, zG, zH, zI, zJ, zK, dcells, okc]
theorem r_isNaNs (C : Ctx) : Runs C ir124 s_NaN := R_NaN fun N hN x hl => by
  have hd : decide (x = x) = true := decide_eq_true rfl
  simp -dsimp only [runE, run_eq, ir124, hd, EVs, ↓EVd, ↓reduceIte, zA, zB, zC, zD, zE, zF, reduceBEq, reduceCtorEq, zG, zH, zI, zJ, zK, dcells, okc]
def x_LessI (a : Int × Int) : List D := match a with | (x, y) => [.v (.int .i64 x), .v (.int .i64 y)]
theorem i_LessI : ∀ a b, x_LessI a = x_LessI b → a = b := by
  rintro ⟨x, y⟩ ⟨x', y'⟩ h
  first | simpa [x_LessI, INJ, and_assoc, Int.ofNat_inj] using h | (simp [x_LessI, INJ, and_assoc, Int.ofNat_inj] at h; simp_all)
noncomputable def s_LessI : List D → Option D := sOf x_LessI fun a => match a with | (x, y) => some (.v (.bool (decide (x < y))))
theorem e_LessI {x : Int} {y : Int} : s_LessI [.v (.int .i64 x), .v (.int .i64 y)] = some (.v (.bool (decide (x < y)))) := sOf_eq i_LessI (x, y)
theorem R_LessI {C : Ctx} {F : IFun} (hspec : ∀ N, maxLen + 10 < N → ∀ (x : Int) (y : Int), lenOK.lenOKs [.v (.int .i64 x), .v (.int .i64 y)] → runE C N F [.v (.int .i64 x), .v (.int .i64 y)] = some (.v (.bool (decide (x < y))))) : Runs C F s_LessI := runs_of i_LessI fun N hN a r hl hf => by
  obtain ⟨x, y⟩ := a
  simp only [Option.some.injEq] at hf
  subst hf
  exact hspec N hN x y hl
theorem r_Less (C : Ctx) (hT : C.T 158 = some s_NaN) : Runs C ir123 s_LessI := R_LessI fun N hN x y hl => by
  simp -dsimp only [runE, run_eq, ir123, hT, e_NaN, EVs, ↓EVd, ↓reduceIte, zA, zB, zC, zD, zE, zF, reduceBEq, reduceCtorEq, zG, zH, zI, zJ, zK, dcells, okc]
end Go.Proofs.Dv
set_option linter.unusedVariables false
set_option linter.unusedSimpArgs false
set_option maxRecDepth 100000
namespace Go.Proofs.Dv
open Go.RowKit
open Nat renaming reduceEqDiff → zA, reduceAdd → zB, reduceSub → zC, reduceLeDiff → zD, reduceLT → zE, reduceMul → zF
open Int renaming reduceToNat → zG, reduceLE → zH, reduceLT → zI
open List renaming set_cons_zero → zJ, set_cons_succ → zK
theorem res_4 {fr : List (Nat × D)} {hp : List (Nat × Blk)} {r s t u : RV} : resDs fr hp [r, s, t, u] = bd (resD fr hp r) fun a => bd (resD fr hp s) fun b => bd (resD fr hp t) fun c => bd (resD fr hp u) fun d => some (.tup [a, b, c, d]) := by
  simp only [resDs, List.mapM_cons, List.mapM_nil, bd]
  cases resD fr hp r <;> cases resD fr hp s <;> cases resD fr hp t <;> cases resD fr hp u <;> rfl
theorem idx_at {x : Int} : ∀ (l : List Int) (n k : Nat), (∀ j y, j < k → l[j]? = some y → ¬ y = x) → l[k]? = some x → idx x l n = ((n + k : Nat) : Int)
  | [], n, k, _, h => by simp at h
  | y :: l, n, k, hn, h => by
    rw [idx]
    cases k with
    | zero =>
      simp only [List.getElem?_cons_zero, Option.some.injEq] at h
      rw [if_pos h.symm]; rfl
    | succ k =>
      have := hn 0 y (by omega) rfl
      rw [if_neg (fun e => this e.symm), idx_at l (n + 1) k (fun j z hj hz => hn (j + 1) z (by omega) (by simpa using hz)) (by simpa using h)]
      congr 1; omega
def bsH (l : List Int) (x : Int) (i j : Nat) : St := ⟨[(0, .lst false (l.map iD)), (1, .v (.int .i64 x)), (6, .v (.int .i64 l.length)), (7, .v (.int .i64 i)), (8, .v (.int .i64 j))], [], 0⟩
def bsE (l : List Int) (x : Int) (e : Nat) : St := ⟨[(15, .v (.bool false)), (14, .v (.int .i64 e)), (13, .v (.int .i64 e)), (0, .lst false (l.map iD)), (1, .v (.int .i64 x)), (6, .v (.int .i64 l.length)), (7, .v (.int .i64 e)), (8, .v (.int .i64 e))], [], 0⟩
theorem bs_loop (C : Ctx) (N : Nat) (hL : C.T 123 = some s_LessI) (l : List Int) (x : Int) (hl : l.length ≤ 1000) (hs : ∀ (a b : Nat) (y z : Int), a < b → l[a]? = some y → l[b]? = some z → y < z) : ∀ (d i j N' : Nat) (σ : St), j ≤ l.length → i ≤ j → j - i ≤ d → d < N' →
    (∀ (k : Nat) y, k < i → l[k]? = some y → y < x) → (∀ (k : Nat) y, j ≤ k → l[k]? = some y → x ≤ y) → trim [0, 1, 6, 7, 8] 0 σ = some (bsH l x i j) →
    ∃ e : Nat, e ≤ l.length ∧ (∀ (k : Nat) y, k < e → l[k]? = some y → y < x) ∧ (∀ (k : Nat) y, e ≤ k → l[k]? = some y → x ≤ y) ∧ iter (ev C N lp86x0) (trim [0, 1, 6, 7, 8] 0) N' σ = some (.ex 0, bsE l x e) := by
  intro d
  induction d with
  | zero =>
    intro i j N' σ hj hij hd hN h1 h2 h0
    obtain ⟨N', rfl⟩ : ∃ k, N' = k + 1 := ⟨N' - 1, by omega⟩
    obtain rfl : i = j := by omega
    refine ⟨i, hj, h1, h2, ?_⟩
    simp only [iter, h0, Option.bind_some]
    have : ev C N lp86x0 (bsH l x i i) = some (.ex 0, bsE l x i) := by simp -dsimp only [lp86x0, bsH, bsE, EVs, ↓EVd, ↓reduceIte, zA, zB, zC, zD, zE, zF, reduceBEq, reduceCtorEq, zG, zH, zI, zJ, zK, dcells, okc]
    rw [this]
  | succ d ih =>
    intro i j N' σ hj hij hd hN h1 h2 h0
    obtain ⟨N', rfl⟩ : ∃ k, N' = k + 1 := ⟨N' - 1, by omega⟩
    by_cases he : i = j
    · subst he
      refine ⟨i, hj, h1, h2, ?_⟩
      simp only [iter, h0, Option.bind_some]
      have : ev C N lp86x0 (bsH l x i i) = some (.ex 0, bsE l x i) := by simp -dsimp only [lp86x0, bsH, bsE, EVs, ↓EVd, ↓reduceIte, zA, zB, zC, zD, zE, zF, reduceBEq, reduceCtorEq, zG, zH, zI, zJ, zK, dcells, okc]
      rw [this]
    · have hlt : i < j := by omega
      have hh : (i + j) / 2 < l.length := by omega
      obtain ⟨y, hy⟩ : ∃ y, l[(i + j) / 2]? = some y := ⟨_, List.getElem?_eq_getElem hh⟩
      have d1 : decide ((i : Int) < (j : Int)) = true := decide_eq_true (by omega)
      have w1 : IntKind.i64.wrap ((i : Int) + (j : Int)) = ((i + j : Nat) : Int) := wr _ (by omega) (by omega)
      have w2 : IntKind.u64.wrap ((i + j : Nat) : Int) = ((i + j : Nat) : Int) := wu _ (by omega) (by omega)
      have w3 : ((i + j : Nat) : Int).fdiv (2 ^ (min 1 IntKind.u64.bits)) = (((i + j) / 2 : Nat) : Int) := by
        show ((i + j : Nat) : Int).fdiv 2 = _
        rw [Int.fdiv_eq_ediv_of_nonneg _ (by omega)]; rfl
      have w4 : IntKind.i64.wrap (((i + j) / 2 : Nat) : Int) = (((i + j) / 2 : Nat) : Int) := wr _ (by omega) (by omega)
      have w5 : IntKind.i64.wrap ((((i + j) / 2 : Nat) : Int) + 1) = (((i + j) / 2 + 1 : Nat) : Int) := wr _ (by omega) (by omega)
      have d2 : decide (0 ≤ (((i + j) / 2 : Nat) : Int)) = true := decide_eq_true (by omega)
      have eL := @e_LessI y x
      generalize hgen : (i + j) / 2 = h at *
      have hit : ∀ (i' j' : Nat), stepE (trim [0, 1, 6, 7, 8] 0) (ev C N lp86x0 (bsH l x i j)) = some (bsH l x i' j') → j' ≤ l.length → i' ≤ j' → j' - i' ≤ d →
          (∀ (k : Nat) y, k < i' → l[k]? = some y → y < x) → (∀ (k : Nat) y, j' ≤ k → l[k]? = some y → x ≤ y) →
          ∃ e : Nat, e ≤ l.length ∧ (∀ (k : Nat) y, k < e → l[k]? = some y → y < x) ∧ (∀ (k : Nat) y, e ≤ k → l[k]? = some y → x ≤ y) ∧ iter (ev C N lp86x0) (trim [0, 1, 6, 7, 8] 0) (N' + 1) σ = some (.ex 0, bsE l x e) := by
        intro i' j' hst g1 g2 g3 g4 g5
        cases hf : ev C N lp86x0 (bsH l x i j) with
        | none => rw [hf] at hst; simp [stepE] at hst
        | some r =>
          obtain ⟨ex, σ'⟩ := r
          rw [hf] at hst
          cases ex with
          | nm =>
            obtain ⟨e, e1, e2, e3, e4⟩ := ih i' j' N' σ' g1 g2 g3 (by omega) g4 g5 (by simpa [stepE] using hst)
            refine ⟨e, e1, e2, e3, ?_⟩
            rw [← e4]
            simp only [iter, h0, Option.bind_some, hf]
          | ex i => simp [stepE] at hst
          | rt => simp [stepE] at hst
      cases c1 : decide (y < x)
      · have c1' : ¬ y < x := by simpa using c1
        refine hit i h ?_ (by omega) (by omega) (by omega) h1 fun k z hk hz => ?_
        · simp -dsimp only [lp86x0, bsH, d1, w1, w2, w3, w4, d2, hy, iD, hL, eL, c1, EVs, ↓EVd, ↓reduceIte, zA, zB, zC, zD, zE, zF, reduceBEq, reduceCtorEq, zG, zH, zI, zJ, zK, dcells, okc]
        · rcases Nat.eq_or_lt_of_le hk with e | e
          · subst e; rw [hy] at hz; simp only [Option.some.injEq] at hz; omega
          · have := hs _ _ _ _ e hy hz; omega
      · have c1' : y < x := by simpa using c1
        refine hit (h + 1) j ?_ (by omega) (by omega) (by omega) (fun k z hk hz => ?_) h2
        · simp -dsimp only [lp86x0, bsH, d1, w1, w2, w3, w4, w5, d2, hy, iD, hL, eL, c1, EVs, ↓EVd, ↓reduceIte, zA, zB, zC, zD, zE, zF, reduceBEq, reduceCtorEq, zG, zH, zI, zJ, zK, dcells, okc]
        · rcases Nat.eq_or_lt_of_le (show k ≤ h by omega) with e | e
          · subst e; rw [hy] at hz; simp only [Option.some.injEq] at hz; omega
          · have := hs _ _ _ _ e hz hy; omega
theorem bs_loopJ (C : Ctx) (N : Nat) (hL : C.T 123 = some s_LessI) (l : List Int) (x : Int) (hl : l.length ≤ 1000) (hs : ∀ (a b : Nat) (y z : Int), a < b → l[a]? = some y → l[b]? = some z → y < z) (hN : 1010 < N) {σ : St} {J : Option (Ex × St)}
    (hJ : iter (ev C N lp86x0) (trim [0, 1, 6, 7, 8] 0) N σ = J) (h0 : trim [0, 1, 6, 7, 8] 0 σ = some (bsH l x 0 l.length)) :
    ∃ e : Nat, (∀ (k : Nat) y, k < e → l[k]? = some y → y < x) ∧ (∀ (k : Nat) y, e ≤ k → l[k]? = some y → x ≤ y) ∧ J = some (.ex 0, bsE l x e) := by
  obtain ⟨e, _, e2, e3, e4⟩ := bs_loop C N hL l x hl hs l.length 0 l.length N σ (Nat.le_refl _) (Nat.zero_le _) (by omega) (by omega) (fun k y hk _ => by omega) (fun k y hk hy => by have := (List.getElem?_eq_some_iff.1 hy).1; omega) h0
  exact ⟨e, e2, e3, hJ.symm.trans e4⟩
def x_BS (a : (List Int) × Int) : List D := match a with | (l, x) => [.lst false (l.map iD), .v (.int .i64 x)]
theorem i_BS : ∀ a b, x_BS a = x_BS b → a = b := by
  rintro ⟨l, x⟩ ⟨l', x'⟩ h
  first | simpa [x_BS, INJ, and_assoc, Int.ofNat_inj] using h | (simp [x_BS, INJ, and_assoc, Int.ofNat_inj] at h; simp_all)
open Classical in
noncomputable def s_BS : List D → Option D := sOf x_BS fun a => match a with | (l, x) => if (l.Pairwise (fun a b => a < b) ∧ x ∈ l ∧ l.length ≤ 1000) then some (.tup [.v (.int .i64 (idx x l 0)), .v (.bool true)]) else none
theorem e_BS {l : List Int} {x : Int} (hc : (l.Pairwise (fun a b => a < b) ∧ x ∈ l ∧ l.length ≤ 1000)) : s_BS [.lst false (l.map iD), .v (.int .i64 x)] = some (.tup [.v (.int .i64 (idx x l 0)), .v (.bool true)]) := (sOf_eq i_BS (l, x)).trans (if_pos hc)
theorem R_BS {C : Ctx} {F : IFun} (hspec : ∀ N, maxLen + 10 < N → ∀ (l : List Int) (x : Int), lenOK.lenOKs [.lst false (l.map iD), .v (.int .i64 x)] → (l.Pairwise (fun a b => a < b) ∧ x ∈ l ∧ l.length ≤ 1000) → runE C N F [.lst false (l.map iD), .v (.int .i64 x)] = some (.tup [.v (.int .i64 (idx x l 0)), .v (.bool true)])) : Runs C F (s_BS) := runs_of i_BS fun N hN a r hl hf => by
  obtain ⟨l, x⟩ := a
  simp only [Option.ite_none_right_eq_some, Option.some.injEq] at hf
  obtain ⟨hc, rfl⟩ := hf
  exact hspec N hN l x hl hc
theorem r_BinarySearch (C : Ctx) (hL : C.T 123 = some s_LessI) (hn : C.T 124 = some s_NaN) : Runs C ir86 s_BS := R_BS fun N hN l x hl hc => by
  obtain ⟨c1, c2, c3⟩ := hc
  have hml := maxLen_ge
  have hs : ∀ (a b : Nat) (y z : Int), a < b → l[a]? = some y → l[b]? = some z → y < z := by
    intro a b y z hab ha hb
    obtain ⟨ha1, rfl⟩ := List.getElem?_eq_some_iff.1 ha
    obtain ⟨hb1, rfl⟩ := List.getElem?_eq_some_iff.1 hb
    exact List.pairwise_iff_getElem.1 c1 a b ha1 hb1 hab
  simp -dsimp only [runE, run_eq, ir86, EVs, ↓EVd, ↓reduceIte, zA, zB, zC, zD, zE, zF, reduceBEq, reduceCtorEq, zG, zH, zI, zJ, zK, dcells, okc]
  generalize hI : iter _ _ _ _ = I
  obtain ⟨e, e2, e3, rfl⟩ := bs_loopJ C N hL l x c3 hs (by omega) hI (by simp -dsimp only [bsH, EVs, ↓EVd, ↓reduceIte, zA, zB, zC, zD, zE, zF, reduceBEq, reduceCtorEq, zG, zH, zI, zJ, zK, dcells, okc])
  obtain ⟨p, hp⟩ := List.mem_iff_getElem?.1 c2
  have hpl := (List.getElem?_eq_some_iff.1 hp).1
  have hep : e = p := by
    rcases Nat.lt_trichotomy e p with h | h | h
    · obtain ⟨z, hz⟩ : ∃ z, l[e]? = some z := ⟨_, List.getElem?_eq_getElem (by omega)⟩
      have h1 := e3 e z (Nat.le_refl _) hz
      have h2 := hs e p z x h hz hp
      omega
    · exact h
    · have := e2 p x h hp; omega
  subst hep
  have hi : idx x l 0 = (e : Int) := by
    rw [idx_at l 0 e (fun j y hj hy => by have := e2 j y hj hy; omega) hp, Nat.zero_add]
  have d1 : decide ((e : Int) < (l.length : Int)) = true := decide_eq_true (by omega)
  have d2 : decide (0 ≤ (e : Int)) = true := decide_eq_true (by omega)
  have d3 : decide (x = x) = true := decide_eq_true rfl
  rw [hi]
  simp -dsimp only [bsE, d1, d2, hp, iD, d3, EVs, ↓EVd, ↓reduceIte, zA, zB, zC, zD, zE, zF, reduceBEq, reduceCtorEq, zG, zH, zI, zJ, zK, dcells, okc]
def topOf (r : Rg) (reg : Int) : Int := if r.of_ = -1 then reg else r.of_
def RegZ (m : Mc) : Prop := m.regs.length ≤ 1000 ∧ ∀ (i : Nat) (r : Rg), m.regs[i]? = some r → (1 ≤ r.width ∧ r.width ≤ 64 ∧ 0 ≤ r.low ∧ r.low + r.width ≤ 64) ∧ (r.of_ = -1 ∨ (0 ≤ r.of_ ∧ ∃ p, m.regs[r.of_.toNat]? = some p ∧ p.of_ = -1))
theorem top_mem {m : Mc} (hz : RegZ m) {reg : Int} (h0 : decide (0 ≤ reg) = true) {r : Rg} (hr : m.regs[reg.toNat]? = some r) : topOf r reg ∈ topsL m := by
  have h0' : 0 ≤ reg := by simpa using h0
  rw [topsL, tops_mem]
  unfold topOf
  by_cases h : r.of_ = -1
  · rw [if_pos h]; exact ⟨reg.toNat, r, hr, h, by omega⟩
  · rw [if_neg h]
    rcases (hz.2 _ _ hr).2 with h1 | ⟨h1, p, h2, h3⟩
    · exact (h h1).elim
    · exact ⟨r.of_.toNat, p, h2, h3, by omega⟩
def pieceP (m : Mc) (reg : Int) (r : Rg) : Int := idx (topOf r reg) (topsL m) 0
def partD (m : Mc) (reg c : Int) : D := bif !decide (c = 0) then .tup [.v (.int .i64 0), .v (.int .i64 0), .v (.int .i64 0), .v (.int .i64 c)] else
  bif !inB reg 0 (IntKind.i64.wrap ((m.regs.length : Int) - 1)) then .tup [.v (.int .i64 0), .v (.int .i64 0), .v (.int .i64 0), .v (.int .i64 2)] else
  match m.regs[reg.toNat]? with
  | some r => .tup [.v (.int .i64 (pieceP m reg r)), .v (.int .i64 r.low), .v (.int .i64 r.width), .v (.int .i64 0)]
  | none => .junk
def x_PartF (a : Mc × Int) : List D := match a with | (m, reg) => [.agg m.d, .v (.int .i64 reg)]
theorem i_PartF : ∀ a b, x_PartF a = x_PartF b → a = b := by
  rintro ⟨m, reg⟩ ⟨m', reg'⟩ h
  first | simpa [x_PartF, INJ, and_assoc, Int.ofNat_inj] using h | (simp [x_PartF, INJ, and_assoc, Int.ofNat_inj] at h; simp_all)
open Classical in
noncomputable def s_PartF : List D → Option D := sOf x_PartF fun a => match a with | (m, reg) => if (TOKs m ∧ (chkM m = 0 → RegZ m)) then some (partD m reg (chkM m)) else none
theorem e_PartF {m : Mc} {reg : Int} (hc : (TOKs m ∧ (chkM m = 0 → RegZ m))) : s_PartF [.agg m.d, .v (.int .i64 reg)] = some (partD m reg (chkM m)) := (sOf_eq i_PartF (m, reg)).trans (if_pos hc)
theorem R_PartF {C : Ctx} {F : IFun} (hspec : ∀ N, maxLen + 10 < N → ∀ (m : Mc) (reg : Int), lenOK.lenOKs [.agg m.d, .v (.int .i64 reg)] → (TOKs m ∧ (chkM m = 0 → RegZ m)) → runE C N F [.agg m.d, .v (.int .i64 reg)] = some (partD m reg (chkM m))) : Runs C F (s_PartF) := runs_of i_PartF fun N hN a r hl hf => by
  obtain ⟨m, reg⟩ := a
  simp only [Option.ite_none_right_eq_some, Option.some.injEq] at hf
  obtain ⟨hc, rfl⟩ := hf
  exact hspec N hN m reg hl hc
theorem r_Part (C : Ctx) (hM : C.T 14 = some s_ChkM) (hW : C.T 58 = some s_in) (hT : C.T 84 = some s_TopsF) (hB : C.T 86 = some s_BS) : Runs C ir24 s_PartF := R_PartF fun N hN m reg hl hc => by
  obtain ⟨t1, t2⟩ := hc
  have eM := @e_ChkM m t1
  simp only [Mc.d] at eM
  have eW := @e_in reg 0 (IntKind.i64.wrap ((m.regs.length : Int) - 1))
  unfold partD
  cases h0 : decide (chkM m = 0)
  · simp -dsimp only [runE, run_eq, res_4, ir24, Mc.d, hM, eM, h0, EVs, ↓EVd, ↓reduceIte, zA, zB, zC, zD, zE, zF, reduceBEq, reduceCtorEq, zG, zH, zI, zJ, zK, dcells, okc]
  have hz := t2 (by simpa using h0)
  cases h1 : inB reg 0 (IntKind.i64.wrap ((m.regs.length : Int) - 1))
  · simp -dsimp only [runE, run_eq, res_4, ir24, Mc.d, hM, eM, h0, hW, eW, h1, EVs, ↓EVd, ↓reduceIte, zA, zB, zC, zD, zE, zF, reduceBEq, reduceCtorEq, zG, zH, zI, zJ, zK, dcells, okc]
  obtain ⟨hge, r, hr⟩ := inB_get (by have := hz.1; omega) h1
  have eT := @e_TopsF m hz.1
  simp only [Mc.d] at eT
  have eB := @e_BS (topsL m) (topOf r reg) ⟨tops_sorted _ _, top_mem hz hge hr, by have := tops_len m.regs 0; have := hz.1; show (topsAux 0 m.regs).length ≤ 1000; omega⟩
  rw [hr]
  simp only [Bool.not_true, cond_false]
  unfold pieceP
  by_cases h : r.of_ = -1
  · have ht : topOf r reg = reg := by unfold topOf; rw [if_pos h]
    rw [ht] at eB ⊢
    have h' : decide (0 ≤ r.of_) = false := decide_eq_false (by omega)
    simp -dsimp only [runE, run_eq, res_4, ir24, Mc.d, Rg.d, hM, eM, h0, hW, eW, h1, hge, hr, h', hT, eT, hB, eB, EVs, ↓EVd, ↓reduceIte, zA, zB, zC, zD, zE, zF, reduceBEq, reduceCtorEq, zG, zH, zI, zJ, zK, dcells, okc]
  · have ht : topOf r reg = r.of_ := by unfold topOf; rw [if_neg h]
    rw [ht] at eB ⊢
    have h' : decide (0 ≤ r.of_) = true := decide_eq_true (by rcases (hz.2 _ _ hr).2 with h1 | ⟨h1, _⟩; exact (h h1).elim; exact h1)
    simp -dsimp only [runE, run_eq, res_4, ir24, Mc.d, Rg.d, hM, eM, h0, hW, eW, h1, hge, hr, h', hT, eT, hB, eB, EVs, ↓EVd, ↓reduceIte, zA, zB, zC, zD, zE, zF, reduceBEq, reduceCtorEq, zG, zH, zI, zJ, zK, dcells, okc]
def ovB (m : Mc) (a b : Int) : Bool := match m.regs[a.toNat]?, m.regs[b.toNat]? with
  | some r, some q => decide (pieceP m a r = pieceP m b q) && (decide (r.low < q.low + q.width) && decide (q.low < r.low + r.width))
  | _, _ => false
def ovD (m : Mc) (a b c : Int) : D := bif !decide (c = 0) then .tup [.v (.bool false), .v (.int .i64 c)] else
  bif !inB a 0 (IntKind.i64.wrap ((m.regs.length : Int) - 1)) || !inB b 0 (IntKind.i64.wrap ((m.regs.length : Int) - 1)) then .tup [.v (.bool false), .v (.int .i64 2)] else .tup [.v (.bool (ovB m a b)), .v (.int .i64 0)]
def x_OverF (a : Mc × Int × Int) : List D := match a with | (m, a, b) => [.agg m.d, .v (.int .i64 a), .v (.int .i64 b)]
theorem i_OverF : ∀ a b, x_OverF a = x_OverF b → a = b := by
  rintro ⟨m, a, b⟩ ⟨m', a', b'⟩ h
  first | simpa [x_OverF, INJ, and_assoc, Int.ofNat_inj] using h | (simp [x_OverF, INJ, and_assoc, Int.ofNat_inj] at h; simp_all)
open Classical in
noncomputable def s_OverF : List D → Option D := sOf x_OverF fun a => match a with | (m, a, b) => if (TOKs m ∧ (chkM m = 0 → RegZ m)) then some (ovD m a b (chkM m)) else none
theorem e_OverF {m : Mc} {a : Int} {b : Int} (hc : (TOKs m ∧ (chkM m = 0 → RegZ m))) : s_OverF [.agg m.d, .v (.int .i64 a), .v (.int .i64 b)] = some (ovD m a b (chkM m)) := (sOf_eq i_OverF (m, a, b)).trans (if_pos hc)
theorem R_OverF {C : Ctx} {F : IFun} (hspec : ∀ N, maxLen + 10 < N → ∀ (m : Mc) (a : Int) (b : Int), lenOK.lenOKs [.agg m.d, .v (.int .i64 a), .v (.int .i64 b)] → (TOKs m ∧ (chkM m = 0 → RegZ m)) → runE C N F [.agg m.d, .v (.int .i64 a), .v (.int .i64 b)] = some (ovD m a b (chkM m))) : Runs C F (s_OverF) := runs_of i_OverF fun N hN a r hl hf => by
  obtain ⟨m, a, b⟩ := a
  simp only [Option.ite_none_right_eq_some, Option.some.injEq] at hf
  obtain ⟨hc, rfl⟩ := hf
  exact hspec N hN m a b hl hc
theorem r_Overlap (C : Ctx) (hP : C.T 24 = some s_PartF) : Runs C ir26 s_OverF := R_OverF fun N hN m a b hl hc => by
  have e1 := @e_PartF m a hc
  have e2 := @e_PartF m b hc
  obtain ⟨t1, t2⟩ := hc
  unfold partD at e1 e2
  simp only [Mc.d] at e1 e2
  unfold ovD
  cases h0 : decide (chkM m = 0)
  · rw [h0] at e1 e2
    simp only [Bool.not_false, cond_true] at e1 e2
    simp -dsimp only [runE, run_eq, ir26, Mc.d, hP, e1, h0, EVs, ↓EVd, ↓reduceIte, zA, zB, zC, zD, zE, zF, reduceBEq, reduceCtorEq, zG, zH, zI, zJ, zK, dcells, okc]
  have hz := t2 (by simpa using h0)
  rw [h0] at e1 e2
  simp only [Bool.not_true, cond_false] at e1 e2
  cases h1 : inB a 0 (IntKind.i64.wrap ((m.regs.length : Int) - 1))
  · rw [h1] at e1
    simp only [Bool.not_false, cond_true] at e1
    simp -dsimp only [runE, run_eq, ir26, Mc.d, hP, e1, h0, h1, Int.reduceEq, EVs, ↓EVd, ↓reduceIte, zA, zB, zC, zD, zE, zF, reduceBEq, reduceCtorEq, zG, zH, zI, zJ, zK, dcells, okc]
  obtain ⟨_, r, hr⟩ := inB_get (by have := hz.1; omega) h1
  rw [h1, hr] at e1
  simp only [Bool.not_true, cond_false] at e1
  cases h2 : inB b 0 (IntKind.i64.wrap ((m.regs.length : Int) - 1))
  · rw [h2] at e2
    simp only [Bool.not_false, cond_true] at e2
    simp -dsimp only [runE, run_eq, ir26, Mc.d, hP, e1, e2, h0, h1, h2, Int.reduceEq, EVs, ↓EVd, ↓reduceIte, zA, zB, zC, zD, zE, zF, reduceBEq, reduceCtorEq, zG, zH, zI, zJ, zK, dcells, okc]
  obtain ⟨_, q, hq⟩ := inB_get (by have := hz.1; omega) h2
  rw [h2, hq] at e2
  simp only [Bool.not_true, cond_false] at e2
  have hov : ovB m a b = (decide (pieceP m a r = pieceP m b q) && decide (max r.low q.low < min (r.low + r.width) (q.low + q.width))) := by
    unfold ovB
    rw [hr, hq]
    obtain ⟨⟨x1, x2, x3, x4⟩, _⟩ := hz.2 _ _ hr
    obtain ⟨⟨y1, y2, y3, y4⟩, _⟩ := hz.2 _ _ hq
    show (_ && _) = (_ && _)
    congr 1
    rw [← Bool.decide_and]
    exact decide_eq_decide.2 (by omega)
  rw [hov]
  obtain ⟨⟨x1, x2, x3, x4⟩, _⟩ := hz.2 _ _ hr
  obtain ⟨⟨y1, y2, y3, y4⟩, _⟩ := hz.2 _ _ hq
  have w1 : IntKind.i64.wrap (r.low + r.width) = r.low + r.width := wr _ (by omega) (by omega)
  have w2 : IntKind.i64.wrap (q.low + q.width) = q.low + q.width := wr _ (by omega) (by omega)
  cases h3 : decide (pieceP m a r = pieceP m b q)
  · simp -dsimp only [runE, run_eq, ir26, Mc.d, hP, e1, e2, h0, h1, h2, h3, EVs, ↓EVd, ↓reduceIte, zA, zB, zC, zD, zE, zF, reduceBEq, reduceCtorEq, zG, zH, zI, zJ, zK, dcells, okc]
  · simp -dsimp only [runE, run_eq, ir26, Mc.d, hP, e1, e2, h0, h1, h2, h3, w1, w2, EVs, ↓EVd, ↓reduceIte, zA, zB, zC, zD, zE, zF, reduceBEq, reduceCtorEq, zG, zH, zI, zJ, zK, dcells, okc]
end Go.Proofs.Dv
set_option linter.unusedVariables false
set_option linter.unusedSimpArgs false
set_option maxRecDepth 100000
namespace Go.Proofs.Dv
open Go.RowKit
open Nat renaming reduceEqDiff → zA, reduceAdd → zB, reduceSub → zC, reduceLeDiff → zD, reduceLT → zE, reduceMul → zF
open Int renaming reduceToNat → zG, reduceLE → zH, reduceLT → zI
open List renaming set_cons_zero → zJ, set_cons_succ → zK
theorem chk_regsR {m : Mc} (h : chkR m = 0) : regsR m = true := by
  unfold chkR at h
  cases hs : smallOK m with
  | false => rw [hs] at h; simp at h
  | true =>
    rw [hs] at h
    simp only [Bool.not_true, cond_false] at h
    cases hh : headR m && allI (insAt m) 0 m.instrs with
    | false => rw [hh] at h; simp at h
    | true =>
      simp only [headR, Bool.and_eq_true] at hh
      exact hh.1.2.2.2.1
theorem chk_regz {m : Mc} (h : chkR m = 0) : RegZ m := by
  have h64 := chkR_regs h
  have hr := chk_regsR h
  simp only [regsR, Bool.and_eq_true] at hr
  refine ⟨by omega, fun i r hi => ?_⟩
  have h1 := allI_get _ _ hr.1 i r hi
  simp only [Nat.zero_add, rgAt, Bool.and_eq_true] at h1
  obtain ⟨⟨_, hw⟩, _, hrest⟩ := h1
  have hw := inB_iff.1 hw
  unfold regRest at hrest
  cases g : decide (r.of_ = -1) with
  | true =>
    rw [g, cond_true] at hrest
    have hlow : r.low = 0 := by simpa using hrest
    exact ⟨by omega, .inl (by simpa using g)⟩
  | false =>
    rw [g, cond_false] at hrest
    cases g2 : inB r.of_ 0 (IntKind.i64.wrap ((m.regs.length : Int) - 1)) with
    | false => rw [g2] at hrest; simp at hrest
    | true =>
      obtain ⟨hge, p, hp⟩ := inB_get (by omega) g2
      rw [g2, hp] at hrest
      simp only [Bool.not_true, cond_false, Bool.and_eq_true, decide_eq_true_eq] at hrest
      obtain ⟨k1, k2, k3, k4⟩ := hrest
      have k3 := inB_iff.1 k3
      have k4 := inB_iff.1 k4
      rw [wr _ (by omega) (by omega)] at k4
      exact ⟨by omega, .inr ⟨by simpa using hge, p, hp, k1⟩⟩
end Go.Proofs.Dv
set_option linter.unusedVariables false
set_option linter.defProp false
set_option linter.unusedSimpArgs false
namespace Go.Proofs.Dv
open Go.RowKit
def nnD (ne : Bool) : D → Option D
  | .lst _ es => gb (decide (0 < es.length)) (fun _ => some (.v (.bool ne))) fun _ => none
  | _ => none
def boxU : Option Blk → Option (List D)
  | some (.box cs) => some cs
  | _ => none
def lenmD (hp : List (Nat × Blk)) : D → Option D
  | .lst _ es => some (.v (.int .i64 es.length))
  | .own id n => bd (boxU (lkh hp id)) fun _ => some (.v (.int .i64 n))
  | _ => none
def iamD (sz : Nat) (hp : List (Nat × Blk)) : D → D → Option D
  | .own id n, .v (.int _ i) => bd (boxU (lkh hp id)) fun _ => gb (decide (0 ≤ i) && decide (i < (n : Int))) (fun _ => some (.ptr id (i.toNat * sz))) fun _ => none
  | _, _ => none
def apmD (sz bytes : Nat) (news : List (List D)) (K : Unit → Option St) [Dm K] : D → Option St
  | .lst true [] => gb ((news.all fun e => e.length == sz) && decide (0 < sz) && !news.isEmpty && decide (news.length * bytes ≤ 140737488355328)) K fun _ => none
  | _ => none
def scD : D → Option D
  | .v x => some (.v x)
  | _ => none
def pkT (hp : List (Nat × Blk)) (args : List D) : Option (List D → Option D) → Option D
  | some s => bd (expoP.expos hp args) fun ds => bd (s ds) scD
  | none => none
def pkC (C : Ctx) (hp : List (Nat × Blk)) (args : List D) : D → Option D
  | .fn f caps => pkT hp (args ++ caps) (C.T f)
  | _ => none
def boxE (n : Nat) : Option Blk → Option (List (List D))
  | some (.row _ els) => gb (decide (els.length = n)) (fun _ => some els) fun _ => none
  | some (.box cells) => gb (decide (cells.length = n) && cl.cls cells) (fun _ => some (cells.map fun c => [c])) fun _ => none
  | _ => none
theorem nn_lst {ne e : Bool} {es : List (List D)} : nnD ne (.lst e es) = gb (decide (0 < es.length)) (fun _ => some (.v (.bool ne))) fun _ => none := nr rfl
theorem bu_box {cs : List D} : boxU (some (.box cs)) = some cs := nr rfl
theorem lm_lst {hp : List (Nat × Blk)} {e : Bool} {es : List (List D)} : lenmD hp (.lst e es) = some (.v (.int .i64 es.length)) := nr rfl
theorem lm_own {hp : List (Nat × Blk)} {id n : Nat} : lenmD hp (.own id n) = bd (boxU (lkh hp id)) fun _ => some (.v (.int .i64 n)) := nr rfl
theorem im_own {sz : Nat} {hp : List (Nat × Blk)} {id n : Nat} {k : IntKind} {i : Int} : iamD sz hp (.own id n) (.v (.int k i)) = bd (boxU (lkh hp id)) fun _ => gb (decide (0 ≤ i) && decide (i < (n : Int))) (fun _ => some (.ptr id (i.toNat * sz))) fun _ => none := nr rfl
theorem am_lst {sz bytes : Nat} {news : List (List D)} {K : Unit → Option St} {_ : Dm K} : apmD sz bytes news K (.lst true []) = gb ((news.all fun e => e.length == sz) && decide (0 < sz) && !news.isEmpty && decide (news.length * bytes ≤ 140737488355328)) K fun _ => none := nr rfl
theorem sc_v {x : Value} : scD (.v x) = some (.v x) := nr rfl
theorem pk_s {hp : List (Nat × Blk)} {args : List D} {s : List D → Option D} : pkT hp args (some s) = bd (expoP.expos hp args) fun ds => bd (s ds) scD := nr rfl
theorem pk_fn {C : Ctx} {hp : List (Nat × Blk)} {args caps : List D} {f : Nat} : pkC C hp args (.fn f caps) = pkT hp (args ++ caps) (C.T f) := nr rfl
theorem be_box {n : Nat} {cells : List D} : boxE n (some (.box cells)) = gb (decide (cells.length = n) && cl.cls cells) (fun _ => some (cells.map fun c => [c])) fun _ => none := nr rfl
theorem be_row {n z : Nat} {els : List (List D)} : boxE n (some (.row z els)) = gb (decide (els.length = n)) (fun _ => some els) fun _ => none := nr rfl
section
variable {hp : List (Nat × Blk)}
theorem xP_v {x : Value} : expoP hp (.v x) = some (.v x) := by simp only [expoP]
theorem xP_lst {b : Bool} {es : List (List D)} : expoP hp (.lst b es) = some (.lst b es) := by simp only [expoP]
theorem xP_rp {cs : List D} : expoP hp (.rp cs) = some (.rp cs) := by simp only [expoP]
theorem xP_agg {ds : List D} : expoP hp (.agg ds) = bd (expoP.expos hp ds) fun e => some (.agg e) := by
  simp only [expoP, bd]; cases expoP.expos hp ds <;> rfl
theorem xP_tup {ds : List D} : expoP hp (.tup ds) = bd (expoP.expos hp ds) fun e => some (.tup e) := by
  simp only [expoP, bd]; cases expoP.expos hp ds <;> rfl
theorem xP_own {id n : Nat} : expoP hp (.own id n) = bd (boxE n (lkh hp id)) fun els => some (.lst false els) := by
  simp only [expoP, bd]
  rcases lkh hp id with _ | ⟨cs | ⟨z, els⟩ | es⟩ <;> simp [boxE, gb]
  · by_cases h : cs.length = n <;> by_cases h2 : cl.cls cs = true <;> simp [h, h2]
  · by_cases h : els.length = n <;> simp [h]
theorem xPs_nil : expoP.expos hp [] = some [] := by simp only [expoP.expos]
theorem xPs_cons {d : D} {ds : List D} : expoP.expos hp (d :: ds) = bd (expoP hp d) fun e => bd (expoP.expos hp ds) fun es => some (e :: es) := by
  simp only [expoP.expos, bd]
  cases expoP hp d <;> simp
  cases expoP.expos hp ds <;> rfl
end
section
variable {C : Ctx} {fr : List (Nat × D)} {hp : List (Nat × Blk)} {nx : Nat} {d : Option Nat} {os : List Iop} {l : Bool} {x y : Opd}
theorem o_nnil {ne : Bool} : evOps C (⟨d, .nnil ne x, none, l⟩ :: os) ⟨fr, hp, nx⟩ = bd (nnD ne (evO C fr x)) fun v => evOps C os ⟨put d v fr, hp, nx⟩ := by
  rw [o_q _ fun _ => rfl]; congr 1
  simp only [evQ]
  generalize evO C fr x = g
  cases g with
  | lst e es => cases es <;> simp [nnD, gb]
  | _ => rfl
theorem o_lenm : evOps C (⟨d, .lenm x, none, l⟩ :: os) ⟨fr, hp, nx⟩ = bd (lenmD (hpl l hp) (evO C fr x)) fun v => evOps C os ⟨put d v fr, hp, nx⟩ := by
  rw [o_q _ fun _ => rfl]; congr 1
  simp only [evQ]
  generalize evO C fr x = g
  cases g with
  | own id n =>
    simp only [lenmD]
    generalize lkh (hpl l hp) id = q
    rcases q with _ | ⟨cs | ⟨z, els⟩ | es⟩ <;> rfl
  | _ => rfl
theorem o_iam {sz : Nat} : evOps C (⟨d, .iam sz x y, none, l⟩ :: os) ⟨fr, hp, nx⟩ = bd (iamD sz (hpl l hp) (evO C fr x) (evO C fr y)) fun v => evOps C os ⟨put d v fr, hp, nx⟩ := by
  rw [o_q _ fun _ => rfl]; congr 1
  simp only [evQ]
  generalize evO C fr x = g
  generalize evO C fr y = g'
  cases g with
  | own id n =>
    cases g' with
    | v u =>
      cases u with
      | int k i =>
        simp only [iamD]
        generalize lkh (hpl l hp) id = q
        rcases q with _ | ⟨cs | ⟨z, els⟩ | es⟩
        · rfl
        · simp only [boxU, bd, gb, Option.bind_some, Bool.and_eq_true, decide_eq_true_eq]
        · rfl
        · rfl
      | _ => rfl
    | _ => rfl
  | _ => rfl
theorem o_apm {sz bytes : Nat} : evOps C (⟨d, .apm sz bytes x y, none, false⟩ :: os) ⟨fr, hp, nx⟩ = bd (elD hp (evO C fr y)) fun news =>
    apmD sz bytes news (fun _ => evOps C os ⟨put d (.own nx news.length) fr, (nx, .box news.flatten) :: hp, nx + 1⟩) (evO C fr x) := by
  rw [o_e _ fun _ => rfl]
  have e1 : newsOf hp (evO C fr y) = elD hp (evO C fr y) := by
    generalize evO C fr y = g
    cases g with
    | own id n =>
      simp only [newsOf, elD]
      generalize lkh hp id = q
      rcases q with _ | ⟨cs | ⟨z, els⟩ | es⟩ <;> rfl
    | _ => rfl
  simp only [evE, e1, bd]
  cases elD hp (evO C fr y) with
  | none => rfl
  | some news =>
    simp only [Option.bind_some]
    generalize evO C fr x = g
    cases g with
    | lst e es =>
      cases e <;> cases es <;> simp only [apmD, gb] <;> (split <;> simp)
    | _ => simp only [apmD, gb] <;> (split <;> simp)
theorem o_peek {args : List Opd} : evOps C (⟨d, .peek x args, none, l⟩ :: os) ⟨fr, hp, nx⟩ = bd (pkC C (hpl l hp) (args.map (evO C fr)) (evO C fr x)) fun v => evOps C os ⟨put d v fr, hp, nx⟩ := by
  rw [o_q _ fun _ => rfl]; congr 1
  simp only [evQ]
  generalize evO C fr x = g
  cases g with
  | fn f caps =>
    simp only [pkC]
    cases C.T f with
    | none => rfl
    | some s =>
      simp only [pkT, bd]
      cases expoP.expos (hpl l hp) (args.map (evO C fr) ++ caps) with
      | none => rfl
      | some ds =>
        simp only [Option.bind_some]
        cases s ds with
        | none => rfl
        | some r => cases r <;> simp [scal, scD]
  | _ => rfl
end
def msmD (hp : List (Nat × Blk)) (nx sz bytes : Nat) (zero : List K) : D → D → Option (D × List (Nat × Blk) × Nat)
  | .v (.int .i64 n), .v (.int .i64 c) => gb (decide (0 < n) && decide (n = c) && decide (c * bytes ≤ 140737488355328) && decide (zero.length = sz) && decide (0 < sz)) (fun _ => some (.own nx n.toNat, (nx, .box (List.replicate n.toNat (zero.map K.d)).flatten) :: hp, nx + 1)) fun _ => none
  | _, _ => none
theorem ms_int {hp : List (Nat × Blk)} {nx sz bytes : Nat} {zero : List K} {n c : Int} : msmD hp nx sz bytes zero (.v (.int .i64 n)) (.v (.int .i64 c)) = gb (decide (0 < n) && decide (n = c) && decide (c * bytes ≤ 140737488355328) && decide (zero.length = sz) && decide (0 < sz)) (fun _ => some (.own nx n.toNat, (nx, .box (List.replicate n.toNat (zero.map K.d)).flatten) :: hp, nx + 1)) fun _ => none := nr rfl
theorem o_msm {C : Ctx} {fr : List (Nat × D)} {hp : List (Nat × Blk)} {nx : Nat} {d : Option Nat} {os : List Iop} {x y : Opd} {sz bytes : Nat} {zero : List K} : evOps C (⟨d, .msm sz bytes zero x y, none, false⟩ :: os) ⟨fr, hp, nx⟩ = bd (msmD hp nx sz bytes zero (evO C fr x) (evO C fr y)) fun r => evOps C os ⟨put d r.1 fr, r.2.1, r.2.2⟩ := by
  rw [o_e _ fun _ => rfl]; congr 1
  simp only [evE]
  generalize evO C fr x = g
  generalize evO C fr y = g'
  cases g with
  | v u =>
    cases g' with
    | v u' =>
      cases u with
      | int k n =>
        cases u' with
        | int k' n' => cases k <;> cases k' <;> simp only [msmD, gb, Bool.and_eq_true, decide_eq_true_eq, and_assoc]
        | _ => cases k <;> rfl
      | _ => rfl
    | _ => cases u <;> (try rfl) <;> (rename_i k n; cases k <;> rfl)
  | _ => rfl
def fzo2 (id n : Nat) (b : Option Blk) (A : Nat → List D → Option (Ex × St)) [Dm A] : Option (Ex × St) := match b with
  | some (.box cells) => gb (decide (cells.length = n) && cl.cls cells) (fun _ => A id cells) fun _ => none
  | _ => none
def fzoE (hp : List (Nat × Blk)) (d : D) (A : Nat → List D → Option (Ex × St)) [Dm A] : Option (Ex × St) := match d with
  | .own id n => fzo2 id n (lkh hp id) A
  | _ => none
theorem fo_own {hp : List (Nat × Blk)} {id n : Nat} {A : Nat → List D → Option (Ex × St)} {_ : Dm A} : fzoE hp (.own id n) A = fzo2 id n (lkh hp id) A := nr rfl
theorem fo_box {id n : Nat} {cells : List D} {A : Nat → List D → Option (Ex × St)} {_ : Dm A} : fzo2 id n (some (.box cells)) A = gb (decide (cells.length = n) && cl.cls cells) (fun _ => A id cells) fun _ => none := nr rfl
theorem c_fzo {C : Ctx} {N t nx : Nat} {a : IC} {fr : List (Nat × D)} {hp : List (Nat × Blk)} : ev C N (.fzo t a) ⟨fr, hp, nx⟩ = fzoE hp (lkf fr t) (fun id cells => ev C N a ⟨(t, .lst false (cells.map fun c => [c])) :: fr, rmh hp id, nx⟩) := by
  simp only [ev]
  generalize lkf fr t = g
  cases g with
  | own id n =>
    simp only [fzoE]
    generalize lkh hp id = q
    rcases q with _ | ⟨cs | ⟨z, els⟩ | es⟩
    · rfl
    · simp only [fzo2, gb, Bool.and_eq_true, decide_eq_true_eq]
    · rfl
    · rfl
  | _ => rfl
def EVm := And.intro @ms_int <| And.intro @o_msm <| And.intro @fo_own <| And.intro @fo_box <| And.intro @c_fzo <| And.intro @nn_lst (And.intro @bu_box (And.intro @lm_lst (And.intro @lm_own (And.intro @im_own (And.intro @am_lst (And.intro @sc_v (And.intro @pk_s (And.intro @pk_fn (And.intro @be_box (And.intro @be_row (And.intro @xP_v (And.intro @xP_lst (And.intro @xP_rp (And.intro @xP_agg (And.intro @xP_tup (And.intro @xP_own (And.intro @xPs_nil (And.intro @xPs_cons (And.intro @o_nnil (And.intro @o_lenm (And.intro @o_iam (And.intro @o_apm @o_peek))))))))))))))))))))))
def runP (C : Ctx) (N : Nat) (F : IFun) (ds : List D) : Option D := bd (run C N F ds [] 0) fun r => expoP r.2.1 r.1
def RunsP (C : Ctx) (F : IFun) (s : List D → Option D) : Prop := ∀ N, maxLen + 10 < N → ∀ ds r, lenOK.lenOKs ds → s ds = some r → runP C N F ds = some r
theorem runsP_of {C : Ctx} {F : IFun} {α : Type} {e : α → List D} {f : α → Option D} (hi : ∀ a b, e a = e b → a = b) (h : ∀ N, maxLen + 10 < N → ∀ a r, lenOK.lenOKs (e a) → f a = some r → runP C N F (e a) = some r) : RunsP C F (sOf e f) := by
  intro N hN ds r hl hs
  obtain ⟨a, rfl, hf⟩ := sOf_inv hi hs
  exact h N hN a r hl hf
end Go.Proofs.Dv
set_option linter.unusedVariables false
set_option linter.unusedSimpArgs false
set_option maxRecDepth 100000
namespace Go.Proofs.Dv
open Go.RowKit
open Nat renaming reduceEqDiff → zA, reduceAdd → zB, reduceSub → zC, reduceLeDiff → zD, reduceLT → zE, reduceMul → zF
open Int renaming reduceToNat → zG, reduceLE → zH, reduceLT → zI
open List renaming set_cons_zero → zJ, set_cons_succ → zK
def uV (x : Int) : D := .v (.int .u64 x)
@[simp] theorem uD_iff {l k : List Int} : l.map uD = k.map uD ↔ l = k := ⟨fun h => (List.map_inj_right (fun a b h => uD_inj a b h)).1 h, fun h => by rw [h]⟩
theorem flat_u : ∀ {l : List Int}, (l.map uD).flatten = l.map uV
  | [] => rfl
  | x :: l => by simp only [List.map_cons, List.flatten_cons, flat_u (l := l), uD, uV, List.singleton_append]
theorem uV_sing {l : List Int} : ((l.map uV).map fun c => [c]) = l.map uD := by rw [List.map_map]; rfl
theorem uV_cls : ∀ {l : List Int}, cl.cls (l.map uV) = true
  | [] => rfl
  | x :: l => by simp only [List.map_cons, cl.cls, uV_cls (l := l), uV, cl, Bool.and_self]
theorem uD_one {l : List Int} : ((l.map uD).all fun e => e.length == 1) = true := by
  rw [List.all_map, List.all_eq_true]; intro x _; rfl
theorem uV_set {l : List Int} {p : Nat} {v : Int} (h : p < l.length) : (l.map uV).take p ++ [.v (.int .u64 v)] ++ (l.map uV).drop (p + 1) = (l.set p v).map uV := by
  rw [List.set_eq_take_append_cons_drop, if_pos h]
  simp [uV]
theorem uV_get {l : List Int} {p : Nat} {v : Int} (h : l[p]? = some v) : (l.map uV)[p]? = some (.v (.int .u64 v)) := by rw [List.getElem?_map, h]; rfl
def wAt (m : Mc) (j : Nat) : Int := match (topsL m)[j]? with
  | some t => (match m.regs[t.toNat]? with | some r => r.width | none => 0)
  | none => 0
theorem top_at {m : Mc} {j : Nat} {t : Int} (h : (topsL m)[j]? = some t) : ∃ r, m.regs[t.toNat]? = some r ∧ decide (0 ≤ t) = true ∧ wAt m j = r.width := by
  have hm : t ∈ topsAux 0 m.regs := List.mem_iff_getElem?.2 ⟨j, h⟩
  obtain ⟨k, r, h1, _, h2⟩ := (tops_mem _ _).1 hm
  have h3 : m.regs[t.toNat]? = some r := by rw [h2]; simpa using h1
  refine ⟨r, h3, decide_eq_true (by omega), ?_⟩
  unfold wAt
  rw [h]
  simp only [h3]
def vlM (m : Mc) (rs : List Int) : Bool := scOK (scan (tst (fun (a : Nat) x => okI (wAt m a) x) (fun a _ => a + 1) (fun _ _ => ())) 0 rs)
def errL (m : Mc) (vl : Bool) (k : Nat) (reg c : Int) : Int := bif !decide (c = 0) then c else bif !inB reg 0 (IntKind.i64.wrap ((m.regs.length : Int) - 1)) then 2 else bif !decide (((topsL m).length : Int) = (k : Int)) then 14 else bif !vl then 14 else 0
theorem errL_ok {m : Mc} {vl : Bool} {k : Nat} {reg c : Int} (h : decide (errL m vl k reg c = 0) = true) : c = 0 ∧ inB reg 0 (IntKind.i64.wrap ((m.regs.length : Int) - 1)) = true ∧ (topsL m).length = k ∧ vl = true := by
  unfold errL at h
  cases h0 : decide (c = 0) with
  | false => rw [h0] at h; simp only [Bool.not_false, cond_true] at h; rw [h0] at h; simp at h
  | true =>
    rw [h0] at h
    simp only [Bool.not_true, cond_false] at h
    cases h1 : inB reg 0 (IntKind.i64.wrap ((m.regs.length : Int) - 1)) with
    | false => rw [h1] at h; simp at h
    | true =>
      rw [h1] at h
      simp only [Bool.not_true, cond_false] at h
      cases h2 : decide (((topsL m).length : Int) = (k : Int)) with
      | false => rw [h2] at h; simp at h
      | true =>
        rw [h2] at h
        cases vl with
        | false => simp at h
        | true => exact ⟨by simpa using h0, rfl, by have := of_decide_eq_true h2; omega, rfl⟩
def locD (m : Mc) (reg e : Int) : D := bif !decide (e = 0) then .tup [.v (.int .i64 0), .v (.int .i64 0), .v (.int .i64 0), .v (.int .i64 e)] else
  match m.regs[reg.toNat]? with
  | some r => .tup [.v (.int .i64 (pieceP m reg r)), .v (.int .i64 r.low), .v (.int .i64 r.width), .v (.int .i64 0)]
  | none => .junk
def x_LocF (a : Mc × Bool × (List Int) × Int) : List D := match a with | (m, f, rs, reg) => [.agg m.d, .lst f (rs.map uD), .v (.int .i64 reg)]
theorem i_LocF : ∀ a b, x_LocF a = x_LocF b → a = b := by
  rintro ⟨m, f, rs, reg⟩ ⟨m', f', rs', reg'⟩ h
  first | simpa [x_LocF, INJ, and_assoc, Int.ofNat_inj] using h | (simp [x_LocF, INJ, and_assoc, Int.ofNat_inj] at h; simp_all)
open Classical in
noncomputable def s_LocF : List D → Option D := sOf x_LocF fun a => match a with | (m, f, rs, reg) => if (TOKs m ∧ (chkM m = 0 → RegZ m) ∧ rs.length ≤ 1000) then some (locD m reg (errL m (vlM m rs) rs.length reg (chkM m))) else none
theorem e_LocF {m : Mc} {f : Bool} {rs : List Int} {reg : Int} (hc : (TOKs m ∧ (chkM m = 0 → RegZ m) ∧ rs.length ≤ 1000)) : s_LocF [.agg m.d, .lst f (rs.map uD), .v (.int .i64 reg)] = some (locD m reg (errL m (vlM m rs) rs.length reg (chkM m))) := (sOf_eq i_LocF (m, f, rs, reg)).trans (if_pos hc)
theorem R_LocF {C : Ctx} {F : IFun} (hspec : ∀ N, maxLen + 10 < N → ∀ (m : Mc) (f : Bool) (rs : List Int) (reg : Int), lenOK.lenOKs [.agg m.d, .lst f (rs.map uD), .v (.int .i64 reg)] → (TOKs m ∧ (chkM m = 0 → RegZ m) ∧ rs.length ≤ 1000) → runE C N F [.agg m.d, .lst f (rs.map uD), .v (.int .i64 reg)] = some (locD m reg (errL m (vlM m rs) rs.length reg (chkM m)))) : Runs C F (s_LocF) := runs_of i_LocF fun N hN a r hl hf => by
  obtain ⟨m, f, rs, reg⟩ := a
  simp only [Option.ite_none_right_eq_some, Option.some.injEq] at hf
  obtain ⟨hc, rfl⟩ := hf
  exact hspec N hN m f rs reg hl hc
theorem r_locate (C : Ctx) (hP : C.T 24 = some s_PartF) (hT : C.T 84 = some s_TopsF) (hO : C.T 92 = some s_Ok) : Runs C ir88 s_LocF := R_LocF fun N hN m f rs reg hl hc => by
  obtain ⟨t1, t2, t3⟩ := hc
  have hml := maxLen_ge
  have e1 := @e_PartF m reg ⟨t1, t2⟩
  unfold partD at e1
  simp only [Mc.d] at e1
  unfold locD errL
  cases h0 : decide (chkM m = 0)
  · rw [h0] at e1
    simp only [Bool.not_false, cond_true] at e1
    simp -dsimp only [runE, run_eq, res_4, ir88, Mc.d, hP, e1, h0, EVs, ↓EVd, ↓reduceIte, zA, zB, zC, zD, zE, zF, reduceBEq, reduceCtorEq, zG, zH, zI, zJ, zK, dcells, okc]
  have hz := t2 (by simpa using h0)
  rw [h0] at e1
  simp only [Bool.not_true, cond_false] at e1
  cases h1 : inB reg 0 (IntKind.i64.wrap ((m.regs.length : Int) - 1))
  · rw [h1] at e1
    simp only [Bool.not_false, cond_true] at e1
    simp -dsimp only [runE, run_eq, res_4, ir88, Mc.d, hP, e1, h0, h1, Int.reduceEq, EVs, ↓EVd, ↓reduceIte, zA, zB, zC, zD, zE, zF, reduceBEq, reduceCtorEq, zG, zH, zI, zJ, zK, dcells, okc]
  obtain ⟨hge, r, hr⟩ := inB_get (by have := hz.1; omega) h1
  rw [h1, hr] at e1
  simp only [Bool.not_true, cond_false] at e1
  have eT := @e_TopsF m hz.1
  simp only [Mc.d] at eT
  rw [hr]
  cases h2 : decide (((topsL m).length : Int) = (rs.length : Int))
  · simp -dsimp only [runE, run_eq, res_4, ir88, Mc.d, hP, e1, hT, eT, h2, Int.reduceEq, EVs, ↓EVd, ↓reduceIte, zA, zB, zC, zD, zE, zF, reduceBEq, reduceCtorEq, zG, zH, zI, zJ, zK, dcells, okc]
  have hlen : (topsL m).length = rs.length := by have := of_decide_eq_true h2; omega
  simp -dsimp only [runE, run_eq, res_4, ir88, Mc.d, hP, e1, hT, eT, h2, Int.reduceEq, EVs, ↓EVd, ↓reduceIte, zA, zB, zC, zD, zE, zF, reduceBEq, reduceCtorEq, zG, zH, zI, zJ, zK, dcells, okc]
  generalize hI : iter _ _ _ _ = I
  revert I
  refine iter_test rs (fun j _ => ⟨[(3, .ptr 0 0), (6, .v (.int .i64 (pieceP m reg r))), (7, .v (.int .i64 r.low)), (8, .v (.int .i64 r.width)), (10, .lst false ((topsL m).map iD)), (31, .lst f (rs.map uD)), (32, .v (.int .i64 rs.length)), (33, .v (.int .i64 j))], [(0, .box m.d)], 1⟩) (fun (a : Nat) x => okI (wAt m a) x) (fun a _ => a + 1) (fun _ _ => ()) (fun i a => a = i) 0 (by omega) hN ?_ rfl ?_ ?_ ?_
  · simp -dsimp only [Mc.d, EVs, ↓EVd, ↓reduceIte, zA, zB, zC, zD, zE, zF, reduceBEq, reduceCtorEq, zG, zH, zI, zJ, zK, dcells, okc]
  · rintro _ j x hj hjw hx rfl
    obtain ⟨t, ht⟩ : ∃ t, (topsL m)[j]? = some t := ⟨_, List.getElem?_eq_getElem (by have := (List.getElem?_eq_some_iff.1 hx).1; omega)⟩
    obtain ⟨q, hq, h3, h4⟩ := top_at ht
    refine ⟨?_, fun _ => rfl⟩
    rw [h4]
    have eO := @e_Ok q.width x
    simp -dsimp only [lp88x0, hj, hjw, hx, uD, iD, ht, hq, h3, Mc.d, Rg.d, hO, eO, EVs, ↓EVd, ↓reduceIte, zA, zB, zC, zD, zE, zF, reduceBEq, reduceCtorEq, zG, zH, zI, zJ, zK, dcells, okc]
    repeat' ((first | with_reducible refine gb_split (fun _ => ?_) (fun _ => ?_) | with_reducible refine gb_splitr (fun _ => ?_) (fun _ => ?_)) <;> (try simp -dsimp only [lp88x0, hj, hjw, hx, uD, iD, ht, hq, h3, Mc.d, Rg.d, hO, eO, EVs, ↓EVd, ↓reduceIte, zA, zB, zC, zD, zE, zF, reduceBEq, reduceCtorEq, zG, zH, zI, zJ, zK, dcells, okc, *]))
  · rintro _ j x hj hx rfl hs
    obtain ⟨t, ht⟩ : ∃ t, (topsL m)[j]? = some t := ⟨_, List.getElem?_eq_getElem (by have := (List.getElem?_eq_some_iff.1 hx).1; omega)⟩
    obtain ⟨q, hq, h3, h4⟩ := top_at ht
    have hv : vlM m rs = false := by unfold vlM; rw [hs]; rfl
    rw [h4, hv]
    have eO := @e_Ok q.width x
    simp -dsimp only [lp88x0, hj, hx, uD, iD, ht, hq, h3, Mc.d, Rg.d, hO, eO, res_4, Int.reduceEq, EVs, ↓EVd, ↓reduceIte, zA, zB, zC, zD, zE, zF, reduceBEq, reduceCtorEq, zG, zH, zI, zJ, zK, dcells, okc]
    repeat' ((first | with_reducible refine gb_split (fun _ => ?_) (fun _ => ?_) | with_reducible refine gb_splitr (fun _ => ?_) (fun _ => ?_)) <;> (try simp -dsimp only [lp88x0, hj, hx, uD, iD, ht, hq, h3, Mc.d, Rg.d, hO, eO, res_4, Int.reduceEq, EVs, ↓EVd, ↓reduceIte, zA, zB, zC, zD, zE, zF, reduceBEq, reduceCtorEq, zG, zH, zI, zJ, zK, dcells, okc, *]))
  · rintro _ rfl hs
    have hv : vlM m rs = true := by unfold vlM; rw [hs]; rfl
    rw [hv]
    simp -dsimp only [lp88x0, Mc.d, res_4, EVs, ↓EVd, ↓reduceIte, zA, zB, zC, zD, zE, zF, reduceBEq, reduceCtorEq, zG, zH, zI, zJ, zK, dcells, okc]
    repeat' ((first | with_reducible refine gb_split (fun _ => ?_) (fun _ => ?_) | with_reducible refine gb_splitr (fun _ => ?_) (fun _ => ?_)) <;> (try simp -dsimp only [lp88x0, Mc.d, res_4, EVs, ↓EVd, ↓reduceIte, zA, zB, zC, zD, zE, zF, reduceBEq, reduceCtorEq, zG, zH, zI, zJ, zK, dcells, okc, *]))
end Go.Proofs.Dv
set_option linter.unusedVariables false
set_option linter.unusedSimpArgs false
set_option maxRecDepth 100000
namespace Go.Proofs.Dv
open Go.RowKit
open Nat renaming reduceEqDiff → zA, reduceAdd → zB, reduceSub → zC, reduceLeDiff → zD, reduceLT → zE, reduceMul → zF
open Int renaming reduceToNat → zG, reduceLE → zH, reduceLT → zI
open List renaming set_cons_zero → zJ, set_cons_succ → zK
def usr (y low : Int) : Int := y.fdiv (2 ^ (min low.toNat IntKind.u64.bits))
def rdM (y low w : Int) : Int := uand (usr y low) (mskI w)
def wrM (y x low w : Int) : Int := uor (uandn y (ushl (mskI w) low)) (ushl x low)
def readD (m : Mc) (rs : List Int) (reg e : Int) : D := bif !decide (e = 0) then .tup [.v (.int .u64 0), .v (.int .i64 e)] else
  match m.regs[reg.toNat]? with
  | some r => .tup [.v (.int .u64 (rdM (rs.getD (pieceP m reg r).toNat 0) r.low r.width)), .v (.int .i64 0)]
  | none => .junk
def writeD (m : Mc) (rs : List Int) (reg x e : Int) : D := bif !decide (e = 0) then .tup [.lst true [], .v (.int .i64 e)] else
  match m.regs[reg.toNat]? with
  | some r => bif !okI r.width x then .tup [.lst true [], .v (.int .i64 24)] else .tup [.lst false ((rs.set (pieceP m reg r).toNat (wrM (rs.getD (pieceP m reg r).toNat 0) x r.low r.width)).map uD), .v (.int .i64 0)]
  | none => .junk
theorem idx_lt {x : Int} : ∀ (l : List Int) (n : Nat), x ∈ l → ∃ p : Nat, p < l.length ∧ idx x l n = ((n + p : Nat) : Int)
  | [], n, h => by simp at h
  | y :: l, n, h => by
    rw [idx]
    by_cases e : x = y
    · rw [if_pos e]; exact ⟨0, by simp, rfl⟩
    · rw [if_neg e]
      obtain ⟨p, h1, h2⟩ := idx_lt l (n + 1) (by rcases List.mem_cons.1 h with h | h; exact (e h).elim; exact h)
      exact ⟨p + 1, by simp; omega, by rw [h2]; congr 1; omega⟩
theorem piece_at {m : Mc} (hz : RegZ m) {reg : Int} (h0 : decide (0 ≤ reg) = true) {r : Rg} (hr : m.regs[reg.toNat]? = some r) {rs : List Int} (hl : (topsL m).length = rs.length) : ∃ (p : Nat) (y : Int), pieceP m reg r = (p : Int) ∧ p < rs.length ∧ rs[p]? = some y := by
  obtain ⟨p, h1, h2⟩ := idx_lt _ 0 (top_mem hz h0 hr)
  rw [hl] at h1
  exact ⟨p, rs[p], by unfold pieceP; rw [h2]; simp, h1, List.getElem?_eq_getElem h1⟩
def x_ReadF (a : Mc × Bool × (List Int) × Int) : List D := match a with | (m, f, rs, reg) => [.agg m.d, .lst f (rs.map uD), .v (.int .i64 reg)]
theorem i_ReadF : ∀ a b, x_ReadF a = x_ReadF b → a = b := by
  rintro ⟨m, f, rs, reg⟩ ⟨m', f', rs', reg'⟩ h
  first | simpa [x_ReadF, INJ, and_assoc, Int.ofNat_inj] using h | (simp [x_ReadF, INJ, and_assoc, Int.ofNat_inj] at h; simp_all)
open Classical in
noncomputable def s_ReadF : List D → Option D := sOf x_ReadF fun a => match a with | (m, f, rs, reg) => if (TOKs m ∧ (chkM m = 0 → RegZ m) ∧ rs.length ≤ 1000) then some (readD m rs reg (errL m (vlM m rs) rs.length reg (chkM m))) else none
theorem e_ReadF {m : Mc} {f : Bool} {rs : List Int} {reg : Int} (hc : (TOKs m ∧ (chkM m = 0 → RegZ m) ∧ rs.length ≤ 1000)) : s_ReadF [.agg m.d, .lst f (rs.map uD), .v (.int .i64 reg)] = some (readD m rs reg (errL m (vlM m rs) rs.length reg (chkM m))) := (sOf_eq i_ReadF (m, f, rs, reg)).trans (if_pos hc)
theorem R_ReadF {C : Ctx} {F : IFun} (hspec : ∀ N, maxLen + 10 < N → ∀ (m : Mc) (f : Bool) (rs : List Int) (reg : Int), lenOK.lenOKs [.agg m.d, .lst f (rs.map uD), .v (.int .i64 reg)] → (TOKs m ∧ (chkM m = 0 → RegZ m) ∧ rs.length ≤ 1000) → runE C N F [.agg m.d, .lst f (rs.map uD), .v (.int .i64 reg)] = some (readD m rs reg (errL m (vlM m rs) rs.length reg (chkM m)))) : Runs C F (s_ReadF) := runs_of i_ReadF fun N hN a r hl hf => by
  obtain ⟨m, f, rs, reg⟩ := a
  simp only [Option.ite_none_right_eq_some, Option.some.injEq] at hf
  obtain ⟨hc, rfl⟩ := hf
  exact hspec N hN m f rs reg hl hc
theorem r_Read (C : Ctx) (hL : C.T 88 = some s_LocF) (hK : C.T 89 = some s_Mask) : Runs C ir28 s_ReadF := R_ReadF fun N hN m f rs reg hl hc => by
  have eL := @e_LocF m f rs reg hc
  obtain ⟨t1, t2, t3⟩ := hc
  unfold readD
  unfold locD at eL
  simp only [Mc.d] at eL
  cases h0 : decide (errL m (vlM m rs) rs.length reg (chkM m) = 0)
  · rw [h0] at eL
    simp only [Bool.not_false, cond_true] at eL
    simp -dsimp only [runE, run_eq, ir28, Mc.d, hL, eL, h0, EVs, ↓EVd, ↓reduceIte, zA, zB, zC, zD, zE, zF, reduceBEq, reduceCtorEq, zG, zH, zI, zJ, zK, dcells, okc]
  obtain ⟨h1, h2, h3, h4⟩ := errL_ok h0
  have hz := t2 h1
  obtain ⟨hge, r, hr⟩ := inB_get (by have := hz.1; omega) h2
  obtain ⟨p, y, hp, hpl, hy⟩ := piece_at hz hge hr h3
  have hlow := (hz.2 _ _ hr).1
  have d1 : decide (r.low < 0) = false := decide_eq_false (by omega)
  have d2 : decide (0 ≤ (p : Int)) = true := decide_eq_true (by omega)
  have eK := @e_Mask r.width
  have hg : rs.getD p 0 = y := by rw [List.getD_eq_getElem?_getD, hy]; rfl
  rw [h0, hr] at eL
  simp only [Bool.not_true, cond_false, hp] at eL
  simp only [hr, hp, Int.toNat_natCast, hg, Bool.not_true, cond_false]
  unfold rdM uand usr
  simp -dsimp only [runE, run_eq, ir28, Mc.d, hL, eL, h0, d1, d2, hy, uD, hK, eK, EVs, ↓EVd, ↓reduceIte, zA, zB, zC, zD, zE, zF, reduceBEq, reduceCtorEq, zG, zH, zI, zJ, zK, dcells, okc]
theorem c_clone (C : Ctx) (N : Nat) (f : Bool) (rs : List Int) (nx : Nat) (hp : List (Nat × Blk)) (h1 : decide (0 < rs.length) = true) (h2 : rs.length ≤ 1000) :
    gcr nx (run C N ir93 [.lst f (rs.map uD)] hp nx) = some (.own nx rs.length, (nx, .box (rs.map uV)) :: hp, nx + 1) := by
  have h3 : decide (rs.length * 8 ≤ 140737488355328) = true := decide_eq_true (by omega)
  have h4 : (rs.map uD).isEmpty = false := by
    have := of_decide_eq_true h1
    cases rs with
    | nil => simp at this
    | cons x l => rfl
  simp -dsimp only [EVm, run_eq, ir93, h1, h3, h4, uD_one, flat_u, EVs, ↓EVd, ↓reduceIte, zA, zB, zC, zD, zE, zF, reduceBEq, reduceCtorEq, zG, zH, zI, zJ, zK, dcells, okc]
def x_WriteF (a : Mc × Bool × (List Int) × Int × Int) : List D := match a with | (m, f, rs, reg, x) => [.agg m.d, .lst f (rs.map uD), .v (.int .i64 reg), .v (.int .u64 x)]
theorem i_WriteF : ∀ a b, x_WriteF a = x_WriteF b → a = b := by
  rintro ⟨m, f, rs, reg, x⟩ ⟨m', f', rs', reg', x'⟩ h
  first | simpa [x_WriteF, INJ, and_assoc, Int.ofNat_inj] using h | (simp [x_WriteF, INJ, and_assoc, Int.ofNat_inj] at h; simp_all)
open Classical in
noncomputable def s_WriteF : List D → Option D := sOf x_WriteF fun a => match a with | (m, f, rs, reg, x) => if (TOKs m ∧ (chkM m = 0 → RegZ m) ∧ rs.length ≤ 1000) then some (writeD m rs reg x (errL m (vlM m rs) rs.length reg (chkM m))) else none
theorem e_WriteF {m : Mc} {f : Bool} {rs : List Int} {reg : Int} {x : Int} (hc : (TOKs m ∧ (chkM m = 0 → RegZ m) ∧ rs.length ≤ 1000)) : s_WriteF [.agg m.d, .lst f (rs.map uD), .v (.int .i64 reg), .v (.int .u64 x)] = some (writeD m rs reg x (errL m (vlM m rs) rs.length reg (chkM m))) := (sOf_eq i_WriteF (m, f, rs, reg, x)).trans (if_pos hc)
theorem r_Write (C : Ctx) (hL : C.T 88 = some s_LocF) (hK : C.T 89 = some s_Mask) (hO : C.T 92 = some s_Ok) (hn : C.T 93 = none)
    (hcal : ∀ (f : Bool) (rs : List Int) (nx : Nat) (hp : List (Nat × Blk)), decide (0 < rs.length) = true → rs.length ≤ 1000 → C.cal 93 [.lst f (rs.map uD)] hp nx = some (.own nx rs.length, (nx, .box (rs.map uV)) :: hp, nx + 1)) : RunsP C ir30 s_WriteF := runsP_of i_WriteF fun N hN a ret hl hf => by
  obtain ⟨m, f, rs, reg, x⟩ := a
  simp only [Option.ite_none_right_eq_some, Option.some.injEq] at hf
  obtain ⟨hc, rfl⟩ := hf
  have eL := @e_LocF m f rs reg hc
  obtain ⟨t1, t2, t3⟩ := hc
  unfold writeD
  unfold locD at eL
  simp only [x_WriteF]
  simp only [Mc.d] at eL
  cases h0 : decide (errL m (vlM m rs) rs.length reg (chkM m) = 0)
  · rw [h0] at eL
    simp only [Bool.not_false, cond_true] at eL
    simp -dsimp only [EVm, runP, run_eq, ir30, Mc.d, hL, eL, h0, EVs, ↓EVd, ↓reduceIte, zA, zB, zC, zD, zE, zF, reduceBEq, reduceCtorEq, zG, zH, zI, zJ, zK, dcells, okc]
  obtain ⟨h1, h2, h3, h4⟩ := errL_ok h0
  have hz := t2 h1
  obtain ⟨hge, r, hr⟩ := inB_get (by have := hz.1; omega) h2
  obtain ⟨p, y, hp, hpl, hy⟩ := piece_at hz hge hr h3
  have hlow := (hz.2 _ _ hr).1
  have d1 : decide (r.low < 0) = false := decide_eq_false (by omega)
  have d2 : decide (0 ≤ (p : Int)) = true := decide_eq_true (by omega)
  have d3 : decide ((p : Int) < (rs.length : Int)) = true := decide_eq_true (by omega)
  have d4 : p + 1 ≤ rs.length := hpl
  have d5 : decide (rs.length = rs.length) = true := decide_eq_true rfl
  have eK := @e_Mask r.width
  have eO := @e_Ok r.width x
  have hg : rs.getD p 0 = y := by rw [List.getD_eq_getElem?_getD, hy]; rfl
  rw [h0, hr] at eL
  simp only [Bool.not_true, cond_false, hp] at eL
  simp only [hr, hp, Int.toNat_natCast, hg, Bool.not_true, cond_false]
  cases h5 : okI r.width x
  · simp -dsimp only [EVm, runP, run_eq, ir30, Mc.d, hL, eL, h0, hO, eO, h5, EVs, ↓EVd, ↓reduceIte, zA, zB, zC, zD, zE, zF, reduceBEq, reduceCtorEq, zG, zH, zI, zJ, zK, dcells, okc]
  have hcl := hcal f rs 1 [(0, .box m.d)] (decide_eq_true (by omega)) t3
  simp only [Mc.d] at hcl
  unfold wrM uor uandn ushl
  have hy2 := uV_get hy
  simp -dsimp only [EVm, runP, run_eq, ir30, Mc.d, hL, eL, h0, hO, eO, h5, hn, hcl, hK, eK, d1, d2, d3, d4, d5, hy2, Nat.mul_one, List.length_set, uV_cls, uV_sing, uV_set hpl, EVs, ↓EVd, ↓reduceIte, zA, zB, zC, zD, zE, zF, reduceBEq, reduceCtorEq, zG, zH, zI, zJ, zK, dcells, okc]
end Go.Proofs.Dv
set_option linter.unusedVariables false
set_option linter.unusedSimpArgs false
set_option maxRecDepth 100000
namespace Go.Proofs.Dv
open Go.RowKit
open Nat renaming reduceEqDiff → zA, reduceAdd → zB, reduceSub → zC, reduceLeDiff → zD, reduceLT → zE, reduceMul → zF
open Int renaming reduceToNat → zG, reduceLE → zH, reduceLT → zI
open List renaming set_cons_zero → zJ, set_cons_succ → zK
end Go.Proofs.Dv
set_option linter.unusedVariables false
set_option linter.unusedSimpArgs false
set_option maxRecDepth 100000
namespace Go.Proofs.Dv
open Go.RowKit
open Nat renaming reduceEqDiff → zA, reduceAdd → zB, reduceSub → zC, reduceLeDiff → zD, reduceLT → zE, reduceMul → zF
open Int renaming reduceToNat → zG, reduceLE → zH, reduceLT → zI
open List renaming set_cons_zero → zJ, set_cons_succ → zK
end Go.Proofs.Dv
