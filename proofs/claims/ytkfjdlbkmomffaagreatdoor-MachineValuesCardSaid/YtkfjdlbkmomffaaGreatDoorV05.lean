/- A part of the proof of one statement about the given program: a verified evaluator of the model's code, and contracts of functions (Dvu Dvw YN YG YT ZA ZB ZC ZD Dvz ZE ZF ZG ZH ZI). No condition of its own. -/
import Derived.OpenShut
import Derived.Carry
import Derived.Test.YtkfjdlbkmomffaaGreatDoorV04
set_option linter.unusedVariables false
set_option linter.unusedSimpArgs false
set_option linter.defProp false
set_option linter.constructorNameAsVariable false
set_option linter.unusedVariables false
set_option linter.unusedSimpArgs false
namespace Go.Proofs.Dv
open Go.RowKit
mutual
def toD {H : Type} : DataW H → List D
  | .lit (.bool b) => [.v (.bool b)]
  | .lit (.int k n) => [.v (.int k n)]
  | .lit (.string bs) => [.v (.string ⟨bs.toArray⟩)]
  | .lit _ => [.junk]
  | .nil => [.lst false []]
  | .slice els _ => [.lst false (toDs els)]
  | .agg ps => toDf ps
  | _ => [.junk]
def toDs {H : Type} : List (DataW H) → List (List D)
  | [] => []
  | d :: ds => toD d :: toDs ds
def toDf {H : Type} : List (DataW H) → List D
  | [] => []
  | d :: ds => toD d ++ toDf ds
end
theorem toDs_map {H : Type} : ∀ l : List (DataW H), toDs l = l.map toD
  | [] => by rw [toDs]; rfl
  | d :: ds => by rw [toDs, toDs_map ds]; rfl
def tiles (P : Program) (ok : TypeId → Bool) : List Field → Nat → Nat → Bool
  | [], off, n => off == n
  | f :: fs, off, n => f.offset == off && ok f.type && tiles P ok fs (off + P.cellsOf f.type) n
def goodT (P : Program) (ok : TypeId → Bool) (t : TypeId) : Bool :=
  match P.underlying t with
  | some .bool => P.cellsOf t == 1
  | some (.int _) => P.cellsOf t == 1
  | some .string => P.cellsOf t == 1
  | some (.slice e) => P.cellsOf t == 1 && ok e && decide (0 < P.cellsOf e)
  | some (.struct fs) => tiles P ok fs.toList 0 (P.cellsOf t)
  | _ => false
inductive Sh where
  | bool | int (k : IntKind) | str | sl (e : TypeId) | st (ts : List TypeId) | no
  deriving DecidableEq
def shOf (P : Program) (t : TypeId) : Sh :=
  match P.underlying t with
  | some .bool => .bool
  | some (.int k) => .int k
  | some .string => .str
  | some (.slice e) => .sl e
  | some (.struct fs) => .st (fs.toList.map fun f => f.type)
  | _ => .no
def Ty (P : Program) : Nat → TypeId → List D → Prop
  | 0, _, _ => False
  | n + 1, t, ds =>
    match shOf P t with
    | .bool => ∃ b, ds = [.v (.bool b)]
    | .int k => ∃ x, ds = [.v (.int k x)] ∧ k.min ≤ x ∧ x ≤ k.max
    | .str => ∃ s, ds = [.v (.string s)] ∧ s.size ≤ maxLen
    | .sl e => ∃ es, ds = [.lst false es] ∧ ∀ x ∈ es, Ty P n e x
    | .st ts => go n ts ds
    | .no => False
where
  go (n : Nat) : List TypeId → List D → Prop
  | [], ds => ds = []
  | t :: ts, ds => ∃ x r, ds = x ++ r ∧ Ty P n t x ∧ go n ts r
def S0 (w : World) : Nat → Nat → Prop := fun b _ => b < w.heap.size
def CellsR (w : World) (cs : List Value) (ds : List D) : Prop := cs.length = ds.length ∧ ∀ j (hj : j < ds.length), ∃ c, cs[j]? = some c ∧ c.oneCell' = true ∧ Rd w (S0 w) none ds[j] c
theorem CellsR.one {w : World} {c : Value} {d : D} (h1 : c.oneCell' = true) (h2 : Rd w (S0 w) none d c) : CellsR w [c] [d] := by
  refine ⟨rfl, fun j hj => ?_⟩
  simp only [List.length_singleton] at hj
  obtain rfl : j = 0 := by omega
  exact ⟨c, rfl, h1, h2⟩
theorem CellsR.append {w : World} {cs cs' : List Value} {ds ds' : List D} (h : CellsR w cs ds) (h' : CellsR w cs' ds') : CellsR w (cs ++ cs') (ds ++ ds') := by
  refine ⟨by simp [h.1, h'.1], fun j hj => ?_⟩
  by_cases hlt : j < ds.length
  · obtain ⟨c, c1, c2, c3⟩ := h.2 j hlt
    refine ⟨c, by rw [List.getElem?_append_left (by rw [h.1]; exact hlt)]; exact c1, c2, ?_⟩
    rw [List.getElem_append_left hlt]; exact c3
  · obtain ⟨c, c1, c2, c3⟩ := h'.2 (j - ds.length) (by simp only [List.length_append] at hj; omega)
    refine ⟨c, by rw [List.getElem?_append_right (by rw [h.1]; omega), h.1]; exact c1, c2, ?_⟩
    rw [List.getElem_append_right (by omega)]; exact c3
section
variable {H : Type} {enc : TypeId × Value → H} {P : Program} {w : World} {ok : TypeId → Bool} {held : Bool}
theorem mapM_get {α β : Type} {g : α → Option β} : ∀ {l : List α} {r : List β}, l.mapM g = some r → r.length = l.length ∧ ∀ i (h : i < l.length), ∃ y, r[i]? = some y ∧ g l[i] = some y
  | [], r, h => by simp at h; subst h; exact ⟨rfl, fun i hi => by simp at hi⟩
  | x :: l, r, h => by
    simp only [List.mapM_cons, Option.bind_eq_bind, Option.pure_def, Option.bind_eq_some_iff, Option.some.injEq] at h
    obtain ⟨y, h1, ys, h2, rfl⟩ := h
    obtain ⟨h3, h4⟩ := mapM_get h2
    refine ⟨by simp [h3], fun i hi => ?_⟩
    cases i with
    | zero => exact ⟨y, rfl, h1⟩
    | succ i => obtain ⟨z, z1, z2⟩ := h4 i (by simpa using hi); exact ⟨z, by simpa using z1, by simpa using z2⟩
theorem cells_get {a : Addr} {n : Nat} {cs : List Value} (h : w.cells? 0 a n = some cs) : cs.length = n ∧ ∀ i, i < n → ∃ c, cs[i]? = some c ∧ w.cell? (a.add i) = some c := by
  unfold World.cells? at h
  rw [if_pos (Nat.zero_le _)] at h
  obtain ⟨h1, h2⟩ := mapM_get h
  refine ⟨by simpa using h1, fun i hi => ?_⟩
  obtain ⟨y, y1, y2⟩ := h2 i (by simpa using hi)
  rw [List.getElem_range] at y2
  exact ⟨y, y1, y2⟩
theorem cell_ltu {a : Addr} {c : Value} (h : w.cell? a = some c) : a.block < w.heap.size ∧ a.spot = none := by
  unfold World.cell? at h
  cases hb : w.heap[a.block]? with
  | none => rw [hb] at h; simp at h
  | some o =>
    refine ⟨(Array.getElem?_eq_some_iff.1 hb).1, ?_⟩
    rw [hb] at h
    cases o with
    | cells c t f =>
      simp only at h
      cases hs : a.spot with
      | none => rfl
      | some s => rw [hs] at h; simp at h
    | _ => simp at h
theorem trod_rd (hok : ∀ t, ok t = true → goodT P ok t = true) : ∀ (fuel : Nat) (t : TypeId) (cs : List Value) (d : DataW H) (ps : List MemPlace), ok t = true → DataW.trod enc P w 0 (fun _ => true) held fuel t cs = some (d, ps) →
    CellsR w cs (toD d) ∧ cs.length = P.cellsOf t ∧ Ty P fuel t (toD d) := by
  intro fuel
  induction fuel with
  | zero => intro t cs d ps _ h; simp [DataW.trod] at h
  | succ fuel ih =>
    intro t cs d ps ht h
    have hg := hok t ht
    unfold goodT at hg
    split at hg
    · rename_i hu
      simp only [beq_iff_eq] at hg
      obtain ⟨b, rfl, hx⟩ := DataW.trod_bool hu h
      simp only [Prod.mk.injEq] at hx
      obtain ⟨rfl, rfl⟩ := hx
      refine ⟨CellsR.one rfl (Rd_v.2 ⟨rfl, rfl⟩), by simp [hg], ?_⟩
      rw [Ty, shOf, hu]; exact ⟨b, rfl⟩
    · rename_i k hu
      simp only [beq_iff_eq] at hg
      obtain ⟨n, rfl, hx, hw⟩ := DataW.trod_int hu h
      simp only [Prod.mk.injEq] at hx
      obtain ⟨rfl, rfl⟩ := hx
      refine ⟨CellsR.one rfl (Rd_v.2 ⟨rfl, rfl⟩), by simp [hg], ?_⟩
      rw [Ty, shOf, hu]
      simp only [Lit.wf, Bool.and_eq_true, decide_eq_true_eq] at hw
      exact ⟨n, rfl, hw⟩
    · rename_i hu
      simp only [beq_iff_eq] at hg
      obtain ⟨s, rfl, hx, hw⟩ := DataW.trod_string hu h
      simp only [Prod.mk.injEq] at hx
      obtain ⟨rfl, rfl⟩ := hx
      refine ⟨CellsR.one rfl (Rd_v.2 ⟨rfl, rfl⟩), by simp [hg], ?_⟩
      rw [Ty, shOf, hu]
      exact ⟨s, rfl, hw⟩
    · rename_i e hu
      simp only [Bool.and_eq_true, beq_iff_eq, decide_eq_true_eq] at hg
      obtain ⟨⟨g1, g2⟩, g3⟩ := hg
      rcases DataW.trod_slice hu h with ⟨rfl, hx⟩ | ⟨a, len, cap, elems, rest, n, hn, rfl, hx, _, q1, q2, q3, q4, _, _⟩
      · simp only [Prod.mk.injEq] at hx
        obtain ⟨rfl, rfl⟩ := hx
        refine ⟨CellsR.one rfl (Rd_lst.2 ⟨none, 0, 0, rfl, Nat.le_refl _, Nat.zero_le _, fun h => by simp at h, fun e he => by simp at he, fun h => by simp at h⟩), by simp [g1], ?_⟩
        rw [Ty, shOf, hu]
        exact ⟨[], rfl, fun x hx => by simp at hx⟩
      · simp only [Prod.mk.injEq] at hx
        obtain ⟨rfl, rfl⟩ := hx
        obtain rfl : fuel = n := by omega
        have hel : ∀ i (hi : i < elems.length), ∃ cs', w.cells? 0 (a.add (i * P.cellsOf e)) (P.cellsOf e) = some cs' ∧ CellsR w cs' (toD elems[i].1) ∧ cs'.length = P.cellsOf e ∧ Ty P fuel e (toD elems[i].1) := by
          intro i hi
          have h1 := q4 i (by omega)
          rw [List.getElem?_eq_getElem hi, Option.bind_eq_some_iff] at h1
          obtain ⟨cs', h2, h3⟩ := h1
          exact ⟨cs', h2, ih e cs' elems[i].1 elems[i].2 g2 h3⟩
        have hD : toD (DataW.slice (elems.map (·.1)) (rest.map (·.1))) = [.lst false (elems.map fun x => toD x.1)] := by
          rw [toD, toDs_map, List.map_map]; rfl
        rw [hD]
        refine ⟨CellsR.one rfl (Rd_lst.2 ⟨some a, cap, P.cellsOf e, by simp [q3], by simpa [q3] using q1, q2, fun h => by simp at h, ?_, fun hp => ?_⟩), by simp [g1], ?_⟩
        · intro x hx
          obtain ⟨i, hi, rfl⟩ := List.mem_iff_getElem.1 hx
          simp only [List.length_map] at hi
          obtain ⟨cs', _, h2, h3, _⟩ := hel i hi
          rw [List.getElem_map, ← h2.1, h3]
        · simp only [List.length_map] at hp
          have hsp : a.spot = none := by
            obtain ⟨cs', h1, h2, h3, _⟩ := hel 0 hp
            obtain ⟨_, h4⟩ := cells_get h1
            obtain ⟨c, _, h5⟩ := h4 0 g3
            have := (cell_ltu h5).2
            simpa [Addr.add] using this
          obtain ⟨b, o, sp⟩ := a
          simp only at hsp
          subst hsp
          refine ⟨b, o, rfl, fun i hi j hj => ?_⟩
          simp only [List.length_map] at hi
          obtain ⟨cs', h1, h2, h3, _⟩ := hel i hi
          rw [List.getElem_map] at hj
          obtain ⟨c, c1, c2, c3⟩ := h2.2 j hj
          obtain ⟨_, h4⟩ := cells_get h1
          obtain ⟨c', c4, c5⟩ := h4 j (by rw [← h3, h2.1]; exact hj)
          rw [c1] at c4
          simp only [Option.some.injEq] at c4
          subst c4
          have e1 : w.cell? ⟨b, o + (i * P.cellsOf e + j), none⟩ = some c := by
            rw [add_none, add_none, Nat.add_assoc] at c5; exact c5
          refine ⟨c, e1, (cell_ltu e1).1, c2, ?_⟩
          simp only [List.getElem_map]
          exact c3
        · rw [Ty, shOf, hu]
          refine ⟨_, rfl, fun x hx => ?_⟩
          obtain ⟨i, hi, rfl⟩ := List.mem_iff_getElem.1 hx
          simp only [List.length_map] at hi
          obtain ⟨cs', _, _, _, h4⟩ := hel i hi
          rw [List.getElem_map]; exact h4
    · rename_i fs hu
      obtain ⟨xs, n, hn, hx, hl, hxl, hf⟩ := DataW.trod_struct hu h
      simp only [Prod.mk.injEq] at hx
      obtain ⟨rfl, rfl⟩ := hx
      obtain rfl : fuel = n := by omega
      have key : ∀ (l : List Field) (ys : List (DataW H × List MemPlace)) (off : Nat), tiles P ok l off (P.cellsOf t) = true → l.length = ys.length →
          (∀ (i : Nat) (f : Field), l[i]? = some f → DataW.trod enc P w 0 (fun _ => true) held fuel f.type ((cs.drop f.offset).take (P.cellsOf f.type)) = ys[i]?) →
          CellsR w (cs.drop off) (toDf (ys.map (·.1))) ∧ Ty.go P fuel (l.map fun (f : Field) => f.type) (toDf (ys.map (·.1))) := by
        intro l
        induction l with
        | nil =>
          intro ys off ht hl' _
          simp only [List.length_nil] at hl'
          obtain rfl := List.eq_nil_of_length_eq_zero hl'.symm
          simp only [tiles, beq_iff_eq] at ht
          refine ⟨?_, ?_⟩
          · rw [List.map_nil, toDf, List.drop_of_length_le (by omega)]
            exact ⟨rfl, fun j hj => by simp at hj⟩
          · rw [List.map_nil, List.map_nil, Ty.go, toDf]
        | cons f l ihl =>
          intro ys off ht hl' hf'
          cases ys with
          | nil => simp at hl'
          | cons y ys =>
            simp only [tiles, Bool.and_eq_true, beq_iff_eq] at ht
            obtain ⟨⟨t1, t2⟩, t3⟩ := ht
            have h0 := hf' 0 f rfl
            simp only [List.getElem?_cons_zero] at h0
            obtain ⟨r1, r2, r3⟩ := ih f.type _ y.1 y.2 t2 h0
            obtain ⟨r4, r5⟩ := ihl ys _ t3 (by simpa using hl') fun i g hg => by simpa using hf' (i + 1) g (by simpa using hg)
            rw [List.map_cons, toDf]
            refine ⟨?_, by rw [List.map_cons, Ty.go]; exact ⟨_, _, rfl, r3, r5⟩⟩
            have := CellsR.append r1 r4
            rw [t1] at this
            have e1 : (cs.drop off).take (P.cellsOf f.type) ++ cs.drop (off + P.cellsOf f.type) = cs.drop off := by
              rw [← List.drop_drop, List.take_append_drop]
            rwa [e1] at this
      obtain ⟨k1, k2⟩ := key fs.toList xs 0 hg (by simp [hxl]) fun i f hi => hf i f (by simpa using hi)
      rw [List.drop_zero] at k1
      rw [toD]
      refine ⟨k1, hl, ?_⟩
      rw [Ty, shOf, hu]
      exact k2
    · simp at hg
theorem trod_arr (hok : ∀ t, ok t = true → goodT P ok t = true) {fuel : Nat} {t e : TypeId} {n : Nat} {cs : List Value} {d : DataW H} {ps : List MemPlace} (hu : P.underlying t = some (.array n e)) (he : ok e = true) (hc : P.cellsOf t = n * P.cellsOf e)
    (h : DataW.trod enc P w 0 (fun _ => true) held fuel t cs = some (d, ps)) : CellsR w cs (toD d) := by
  obtain ⟨xs, m, _, hx, hl, hxl, hf⟩ := DataW.trod_array hu h
  simp only [Prod.mk.injEq] at hx
  obtain ⟨rfl, rfl⟩ := hx
  rw [toD]
  have key : ∀ (k : Nat) (ys : List (DataW H × List MemPlace)), ys.length = k → (∀ i, i < k → DataW.trod enc P w 0 (fun _ => true) held m e ((cs.drop ((n - k + i) * P.cellsOf e)).take (P.cellsOf e)) = ys[i]?) → k ≤ n → CellsR w (cs.drop ((n - k) * P.cellsOf e)) (toDf (ys.map (·.1))) := by
    intro k
    induction k with
    | zero =>
      intro ys hy _ _
      obtain rfl := List.eq_nil_of_length_eq_zero hy
      rw [List.map_nil, toDf, List.drop_of_length_le (by rw [hl, hc, Nat.sub_zero]; exact Nat.le_refl _)]
      exact ⟨rfl, fun j hj => by simp at hj⟩
    | succ k ih =>
      intro ys hy hf' hk
      cases ys with
      | nil => simp at hy
      | cons y ys =>
        have h0 := hf' 0 (by omega)
        simp only [List.getElem?_cons_zero, Nat.add_zero] at h0
        obtain ⟨r1, r2, _⟩ := trod_rd hok m e _ y.1 y.2 he h0
        have r3 := ih ys (by simpa using hy) (fun i hi => by
          have := hf' (i + 1) (by omega)
          rw [show n - (k + 1) + (i + 1) = n - k + i by omega] at this
          simpa using this) (by omega)
        rw [List.map_cons, toDf]
        have := CellsR.append r1 r3
        have e1 : (cs.drop ((n - (k + 1)) * P.cellsOf e)).take (P.cellsOf e) ++ cs.drop ((n - k) * P.cellsOf e) = cs.drop ((n - (k + 1)) * P.cellsOf e) := by
          rw [show (n - k) * P.cellsOf e = (n - (k + 1)) * P.cellsOf e + P.cellsOf e by rw [show n - k = n - (k + 1) + 1 by omega, Nat.add_mul, Nat.one_mul], ← List.drop_drop, List.take_append_drop]
        rwa [e1] at this
  have := key n xs hxl (fun i hi => by rw [Nat.sub_self, Nat.zero_add]; exact hf i hi) (Nat.le_refl _)
  rwa [Nat.sub_self, Nat.zero_mul, List.drop_zero] at this
theorem arg_agg {S : Nat → Nat → Prop} {cs : Array Value} {ds : List D} (hS : S = S0 w) (h : CellsR w cs.toList ds) : Rd w S none (.agg ds) (.agg cs) := by
  subst hS
  refine Rd_agg.2 ⟨cs, rfl, by simpa using h.1, fun j hj => ?_⟩
  obtain ⟨c, c1, c2, c3⟩ := h.2 j hj
  exact ⟨c, by simpa using c1, c2, c3⟩
theorem arg_one {S : Nat → Nat → Prop} {v : Value} {d : D} (hS : S = S0 w) (h : CellsR w [v] [d]) : Rd w S none d v := by
  subst hS
  obtain ⟨c, c1, c2, c3⟩ := h.2 0 (by simp)
  simp at c1
  subst c1
  exact c3
theorem reach_ok {P : Program} {l : List TypeId} (h : l.all (goodT P fun t => l.contains t) = true) : ∀ t, (l.contains t) = true → goodT P (fun t => l.contains t) t = true := fun t ht => List.all_eq_true.1 h t (by simpa using ht)
theorem all_stays {P : Program} (hl : laidOutB P = true) {W W' : World} (hb : Below W.heap.size W W') : ∀ {ts : List TypeId} {vs : List Value} {ds : List (DataW H)} {ps : List MemPlace}, (ts.all fun t => P.readableRec t && decide (t < P.types.size)) = true → (∀ x ∈ ps, x.block < W.heap.size) →
    DataW.TrodAll enc P W 0 (fun _ => true) true ts vs ds ps → DataW.TrodAll enc P W' 0 (fun b => decide (b < W.heap.size)) true ts vs ds ps
  | [], [], [], _, _, _, h => h
  | t :: ts, v :: vs, d :: ds, ps, ht, hp, h => by
    obtain ⟨p, q, h1, h2, rfl⟩ := h
    simp only [List.all_cons, Bool.and_eq_true, decide_eq_true_eq] at ht
    exact ⟨p, q, Below.trod hl ht.1.1 ht.1.2 h1 hb fun x hx => hp x (List.mem_append_left _ hx), all_stays hl hb (by simpa using ht.2) (fun x hx => hp x (List.mem_append_right _ hx)) h2, rfl⟩
end
end Go.Proofs.Dv
set_option linter.unusedVariables false
set_option linter.unusedSimpArgs false
namespace Go.Proofs.Dv
open Go.RowKit
def I64 (n : Int) : Prop := -9223372036854775808 ≤ n ∧ n ≤ 9223372036854775807
def U64 (n : Int) : Prop := 0 ≤ n ∧ n < 18446744073709551616
structure Api (P : Program) where
  u8 : TypeId
  int : TypeId
  u64 : TypeId
  str : TypeId
  pc : TypeId
  pcs : TypeId
  opn : TypeId
  opns : TypeId
  tm : TypeId
  tms : TypeId
  ef : TypeId
  efs : TypeId
  ins : TypeId
  inss : TypeId
  rg : TypeId
  rgs : TypeId
  ints : TypeId
  bk : TypeId
  bks : TypeId
  un : TypeId
  uns : TypeId
  mc : TypeId
  h_u8 : shOf P u8 = .int .u8
  h_int : shOf P int = .int .i64
  h_u64 : shOf P u64 = .int .u64
  h_str : shOf P str = .str
  h_pc : shOf P pc = .st [int, int]
  h_pcs : shOf P pcs = .sl pc
  h_opn : shOf P opn = .st [str, u8, int, int, pcs, int]
  h_opns : shOf P opns = .sl opn
  h_tm : shOf P tm = .st [u8, int, u64, str, int, tms]
  h_tms : shOf P tms = .sl tm
  h_ef : shOf P ef = .st [u8, int, int, tm, tm, tm]
  h_efs : shOf P efs = .sl ef
  h_ins : shOf P ins = .st [str, u64, u64, opns, efs, int, int, int, int]
  h_inss : shOf P inss = .sl ins
  h_rg : shOf P rg = .st [str, int, int, int]
  h_rgs : shOf P rgs = .sl rg
  h_ints : shOf P ints = .sl int
  h_bk : shOf P bk = .st [str, ints]
  h_bks : shOf P bks = .sl bk
  h_un : shOf P un = .st [str, int]
  h_uns : shOf P uns = .sl un
  h_mc : shOf P mc = .st [str, int, int, rgs, bks, uns, inss]
section
variable {P : Program} {n : Nat} {t : TypeId} {ds : List D}
theorem ty_st {ts : List TypeId} (h : shOf P t = .st ts) (ht : Ty P n t ds) : ∃ n', n = n' + 1 ∧ Ty.go P n' ts ds := by
  cases n with
  | zero => rw [Ty] at ht; exact ht.elim
  | succ n => rw [Ty, h] at ht; exact ⟨n, rfl, ht⟩
theorem ty_i64 (h : shOf P t = .int .i64) (ht : Ty P n t ds) : ∃ x, ds = [.v (.int .i64 x)] ∧ I64 x := by
  cases n with
  | zero => rw [Ty] at ht; exact ht.elim
  | succ n =>
    rw [Ty, h] at ht
    obtain ⟨x, h1, h2, h3⟩ := ht
    exact ⟨x, h1, by simp [IntKind.min, IntKind.signed, IntKind.bits] at h2; exact h2, by simp [IntKind.max, IntKind.signed, IntKind.bits] at h3; exact h3⟩
theorem ty_u64 (h : shOf P t = .int .u64) (ht : Ty P n t ds) : ∃ x, ds = [.v (.int .u64 x)] ∧ U64 x := by
  cases n with
  | zero => rw [Ty] at ht; exact ht.elim
  | succ n =>
    rw [Ty, h] at ht
    obtain ⟨x, h1, h2, h3⟩ := ht
    exact ⟨x, h1, by simpa [IntKind.min, IntKind.signed, IntKind.bits] using h2, by simp [IntKind.max, IntKind.signed, IntKind.bits] at h3; omega⟩
theorem ty_u8 (h : shOf P t = .int .u8) (ht : Ty P n t ds) : ∃ x, ds = [.v (.int .u8 x)] ∧ 0 ≤ x ∧ x ≤ 255 := by
  cases n with
  | zero => rw [Ty] at ht; exact ht.elim
  | succ n =>
    rw [Ty, h] at ht
    obtain ⟨x, h1, h2, h3⟩ := ht
    exact ⟨x, h1, by simpa [IntKind.min, IntKind.signed, IntKind.bits] using h2, by simp [IntKind.max, IntKind.signed, IntKind.bits] at h3; omega⟩
theorem ty_str (h : shOf P t = .str) (ht : Ty P n t ds) : ∃ s, ds = [.v (.string s)] ∧ s.size ≤ maxLen := by
  cases n with
  | zero => rw [Ty] at ht; exact ht.elim
  | succ n => rw [Ty, h] at ht; exact ht
theorem ty_sl {e : TypeId} (h : shOf P t = .sl e) (ht : Ty P n t ds) {X : Type} {f : X → List D} {W : X → Prop} (hx : ∀ n' ds, n' < n → Ty P n' e ds → ∃ x, ds = f x ∧ W x) : ∃ xs : List X, ds = [.lst false (xs.map f)] ∧ ∀ x ∈ xs, W x := by
  cases n with
  | zero => rw [Ty] at ht; exact ht.elim
  | succ n =>
    rw [Ty, h] at ht
    obtain ⟨es, h1, h2⟩ := ht
    have : ∀ es : List (List D), (∀ x ∈ es, Ty P n e x) → ∃ xs : List X, es = xs.map f ∧ ∀ x ∈ xs, W x := by
      intro es
      induction es with
      | nil => intro _; exact ⟨[], rfl, fun x hx => by simp at hx⟩
      | cons y es ih =>
        intro hy
        obtain ⟨x, x1, x2⟩ := hx n y (by omega) (hy y List.mem_cons_self)
        obtain ⟨xs, x3, x4⟩ := ih fun z hz => hy z (List.mem_cons_of_mem _ hz)
        refine ⟨x :: xs, by rw [x1, x3]; rfl, fun z hz => ?_⟩
        rcases List.mem_cons.1 hz with rfl | hz
        · exact x2
        · exact x4 z hz
    obtain ⟨xs, x1, x2⟩ := this es h2
    exact ⟨xs, by rw [h1, x1], x2⟩
theorem ty_ints {i : TypeId} (hi : shOf P i = .int .i64) (h : shOf P t = .sl i) (ht : Ty P n t ds) : ∃ xs : List Int, ds = [.lst false (xs.map iD)] ∧ ∀ x ∈ xs, I64 x := ty_sl h ht fun n' ds _ h => ty_i64 hi h
theorem ty_u64s {i : TypeId} (hi : shOf P i = .int .u64) (h : shOf P t = .sl i) (ht : Ty P n t ds) : ∃ xs : List Int, ds = [.lst false (xs.map uD)] ∧ ∀ x ∈ xs, U64 x := ty_sl h ht fun n' ds _ h => ty_u64 hi h
end
mutual
def T.tw : T → Prop
  | .mk k w b _ l s => 0 ≤ k ∧ I64 w ∧ U64 b ∧ I64 l ∧ T.tws s
def T.tws : List T → Prop
  | [] => True
  | t :: ts => T.tw t ∧ T.tws ts
end
theorem T.tws_mem : ∀ {s : List T}, T.tws s ↔ ∀ u ∈ s, T.tw u
  | [] => by rw [T.tws]; simp
  | t :: ts => by rw [T.tws, T.tws_mem]; simp
section
variable {P : Program}
theorem T_of (A : Api P) : ∀ (n : Nat) (ds : List D), Ty P n A.tm ds → ∃ t : T, ds = t.d ∧ t.tw := by
  intro n
  induction n using Nat.strongRecOn with
  | ind n ih =>
    intro ds ht
    obtain ⟨n', rfl, h⟩ := ty_st A.h_tm ht
    simp only [Ty.go] at h
    obtain ⟨x1, r1, rfl, h1, x2, r2, rfl, h2, x3, r3, rfl, h3, x4, r4, rfl, h4, x5, r5, rfl, h5, x6, r6, rfl, h6, rfl⟩ := h
    obtain ⟨k, rfl, k1⟩ := ty_u8 A.h_u8 h1
    obtain ⟨w, rfl, w1⟩ := ty_i64 A.h_int h2
    obtain ⟨b, rfl, b1⟩ := ty_u64 A.h_u64 h3
    obtain ⟨s, rfl, _⟩ := ty_str A.h_str h4
    obtain ⟨l, rfl, l1⟩ := ty_i64 A.h_int h5
    obtain ⟨ts, rfl, t1⟩ := ty_sl A.h_tms h6 (f := T.d) (W := T.tw) fun m ds hm h => ih m (by omega) ds h
    exact ⟨.mk k w b s l ts, by rw [T.d_eq]; rfl, by rw [T.tw]; exact ⟨k1.1, w1, b1, l1, T.tws_mem.2 t1⟩⟩
def Ins.tw (i : Ins) : Prop := U64 i.mask ∧ U64 i.match_ ∧ ∀ e ∈ i.effects, e.addr.tw ∧ e.value.tw ∧ e.cond.tw
def Mc.tw (m : Mc) : Prop := (∀ i ∈ m.instrs, i.tw) ∧ ∀ r ∈ m.regs, I64 r.width ∧ I64 r.of_ ∧ I64 r.low
theorem Mc_of (A : Api P) {n : Nat} {ds : List D} (ht : Ty P n A.mc ds) : ∃ m : Mc, ds = m.d ∧ m.tw := by
  have hpc : ∀ n ds, Ty P n A.pc ds → ∃ p : Pc, ds = p.d ∧ True := by
    intro n ds ht
    obtain ⟨n', rfl, h⟩ := ty_st A.h_pc ht
    simp only [Ty.go] at h
    obtain ⟨x1, r1, rfl, h1, x2, r2, rfl, h2, rfl⟩ := h
    obtain ⟨a, rfl, _⟩ := ty_i64 A.h_int h1
    obtain ⟨b, rfl, _⟩ := ty_i64 A.h_int h2
    exact ⟨⟨a, b⟩, rfl, trivial⟩
  have hop : ∀ n ds, Ty P n A.opn ds → ∃ o : Opn, ds = o.d ∧ True := by
    intro n ds ht
    obtain ⟨n', rfl, h⟩ := ty_st A.h_opn ht
    simp only [Ty.go] at h
    obtain ⟨x1, r1, rfl, h1, x2, r2, rfl, h2, x3, r3, rfl, h3, x4, r4, rfl, h4, x5, r5, rfl, h5, x6, r6, rfl, h6, rfl⟩ := h
    obtain ⟨s, rfl, _⟩ := ty_str A.h_str h1
    obtain ⟨k, rfl, _⟩ := ty_u8 A.h_u8 h2
    obtain ⟨b, rfl, _⟩ := ty_i64 A.h_int h3
    obtain ⟨c, rfl, _⟩ := ty_i64 A.h_int h4
    obtain ⟨ps, rfl, _⟩ := ty_sl A.h_pcs h5 (f := Pc.d) (W := fun _ => True) fun m ds _ h => hpc m ds h
    obtain ⟨e, rfl, _⟩ := ty_i64 A.h_int h6
    exact ⟨⟨s, k, b, c, ps, e⟩, rfl, trivial⟩
  have hef : ∀ n ds, Ty P n A.ef ds → ∃ e : Ef, ds = e.d ∧ e.addr.tw ∧ e.value.tw ∧ e.cond.tw := by
    intro n ds ht
    obtain ⟨n', rfl, h⟩ := ty_st A.h_ef ht
    simp only [Ty.go] at h
    obtain ⟨x1, r1, rfl, h1, x2, r2, rfl, h2, x3, r3, rfl, h3, x4, r4, rfl, h4, x5, r5, rfl, h5, x6, r6, rfl, h6, rfl⟩ := h
    obtain ⟨k, rfl, _⟩ := ty_u8 A.h_u8 h1
    obtain ⟨b, rfl, _⟩ := ty_i64 A.h_int h2
    obtain ⟨c, rfl, _⟩ := ty_i64 A.h_int h3
    obtain ⟨t, rfl, t1⟩ := T_of A _ _ h4
    obtain ⟨u, rfl, u1⟩ := T_of A _ _ h5
    obtain ⟨v, rfl, v1⟩ := T_of A _ _ h6
    exact ⟨⟨k, b, c, t, u, v⟩, by simp [Ef.d], t1, u1, v1⟩
  have hin : ∀ n ds, Ty P n A.ins ds → ∃ i : Ins, ds = i.d ∧ i.tw := by
    intro n ds ht
    obtain ⟨n', rfl, h⟩ := ty_st A.h_ins ht
    simp only [Ty.go] at h
    obtain ⟨x1, r1, rfl, h1, x2, r2, rfl, h2, x3, r3, rfl, h3, x4, r4, rfl, h4, x5, r5, rfl, h5, x6, r6, rfl, h6, x7, r7, rfl, h7, x8, r8, rfl, h8, x9, r9, rfl, h9, rfl⟩ := h
    obtain ⟨s, rfl, _⟩ := ty_str A.h_str h1
    obtain ⟨a, rfl, a1⟩ := ty_u64 A.h_u64 h2
    obtain ⟨b, rfl, b1⟩ := ty_u64 A.h_u64 h3
    obtain ⟨os, rfl, _⟩ := ty_sl A.h_opns h4 (f := Opn.d) (W := fun _ => True) fun m ds _ h => hop m ds h
    obtain ⟨es, rfl, e1⟩ := ty_sl A.h_efs h5 (f := Ef.d) (W := fun e => e.addr.tw ∧ e.value.tw ∧ e.cond.tw) fun m ds _ h => hef m ds h
    obtain ⟨c, rfl, _⟩ := ty_i64 A.h_int h6
    obtain ⟨d, rfl, _⟩ := ty_i64 A.h_int h7
    obtain ⟨e, rfl, _⟩ := ty_i64 A.h_int h8
    obtain ⟨f, rfl, _⟩ := ty_i64 A.h_int h9
    exact ⟨⟨s, a, b, os, es, c, d, e, f⟩, rfl, a1, b1, e1⟩
  have hrg : ∀ n ds, Ty P n A.rg ds → ∃ r : Rg, ds = r.d ∧ I64 r.width ∧ I64 r.of_ ∧ I64 r.low := by
    intro n ds ht
    obtain ⟨n', rfl, h⟩ := ty_st A.h_rg ht
    simp only [Ty.go] at h
    obtain ⟨x1, r1, rfl, h1, x2, r2, rfl, h2, x3, r3, rfl, h3, x4, r4, rfl, h4, rfl⟩ := h
    obtain ⟨s, rfl, _⟩ := ty_str A.h_str h1
    obtain ⟨a, rfl, a1⟩ := ty_i64 A.h_int h2
    obtain ⟨b, rfl, b1⟩ := ty_i64 A.h_int h3
    obtain ⟨c, rfl, c1⟩ := ty_i64 A.h_int h4
    exact ⟨⟨s, a, b, c⟩, rfl, a1, b1, c1⟩
  have hbk : ∀ n ds, Ty P n A.bk ds → ∃ b : Bk, ds = b.d ∧ True := by
    intro n ds ht
    obtain ⟨n', rfl, h⟩ := ty_st A.h_bk ht
    simp only [Ty.go] at h
    obtain ⟨x1, r1, rfl, h1, x2, r2, rfl, h2, rfl⟩ := h
    obtain ⟨s, rfl, _⟩ := ty_str A.h_str h1
    obtain ⟨a, rfl, _⟩ := ty_ints A.h_int A.h_ints h2
    exact ⟨⟨s, a⟩, rfl, trivial⟩
  have hun : ∀ n ds, Ty P n A.un ds → ∃ u : Un, ds = u.d ∧ True := by
    intro n ds ht
    obtain ⟨n', rfl, h⟩ := ty_st A.h_un ht
    simp only [Ty.go] at h
    obtain ⟨x1, r1, rfl, h1, x2, r2, rfl, h2, rfl⟩ := h
    obtain ⟨s, rfl, _⟩ := ty_str A.h_str h1
    obtain ⟨a, rfl, _⟩ := ty_i64 A.h_int h2
    exact ⟨⟨s, a⟩, rfl, trivial⟩
  obtain ⟨n', rfl, h⟩ := ty_st A.h_mc ht
  simp only [Ty.go] at h
  obtain ⟨x1, r1, rfl, h1, x2, r2, rfl, h2, x3, r3, rfl, h3, x4, r4, rfl, h4, x5, r5, rfl, h5, x6, r6, rfl, h6, x7, r7, rfl, h7, rfl⟩ := h
  obtain ⟨s, rfl, _⟩ := ty_str A.h_str h1
  obtain ⟨a, rfl, _⟩ := ty_i64 A.h_int h2
  obtain ⟨b, rfl, _⟩ := ty_i64 A.h_int h3
  obtain ⟨rs, rfl, r1⟩ := ty_sl A.h_rgs h4 (f := Rg.d) (W := fun r => I64 r.width ∧ I64 r.of_ ∧ I64 r.low) fun m ds _ h => hrg m ds h
  obtain ⟨bs, rfl, _⟩ := ty_sl A.h_bks h5 (f := Bk.d) (W := fun _ => True) fun m ds _ h => hbk m ds h
  obtain ⟨us, rfl, _⟩ := ty_sl A.h_uns h6 (f := Un.d) (W := fun _ => True) fun m ds _ h => hun m ds h
  obtain ⟨is, rfl, i1⟩ := ty_sl A.h_inss h7 (f := Ins.d) (W := Ins.tw) fun m ds _ h => hin m ds h
  exact ⟨⟨s, a, b, rs, bs, us, is⟩, rfl, i1, r1⟩
end
end Go.Proofs.Dv
set_option linter.unusedVariables false
set_option linter.unusedSimpArgs false
set_option maxRecDepth 100000
namespace Go.Proofs.Dv
open Go.RowKit
open Nat renaming reduceEqDiff → zA, reduceAdd → zB, reduceSub → zC, reduceLeDiff → zD, reduceLT → zE, reduceMul → zF
open Int renaming reduceToNat → zG, reduceLE → zH, reduceLT → zI
open List renaming set_cons_zero → zJ, set_cons_succ → zK
def efN (e : Ef) : Int := (e.addr.size : Int) + (e.value.size : Int) + (e.cond.size : Int)
def insN (i : Ins) : Int := (i.effects.map efN).sum
def nodesM (m : Mc) : Int := (m.instrs.map insN).sum
def SmT (m : Mc) : Prop := m.instrs.length ≤ 100 ∧ ∀ i ∈ m.instrs, i.effects.length ≤ 100 ∧ ∀ e ∈ i.effects, (e.addr.size ≤ 500 ∧ e.addr.depth ≤ 80) ∧ (e.value.size ≤ 500 ∧ e.value.depth ≤ 80) ∧ (e.cond.size ≤ 500 ∧ e.cond.depth ≤ 80)
def x_NodesM (a : Mc) : List D := match a with | m => [.agg m.d]
theorem i_NodesM : ∀ a b, x_NodesM a = x_NodesM b → a = b := by
  rintro m m' h
  first | simpa [x_NodesM, INJ, and_assoc, Int.ofNat_inj] using h | (simp [x_NodesM, INJ, and_assoc, Int.ofNat_inj] at h; simp_all)
open Classical in
noncomputable def s_NodesM : List D → Option D := sOf x_NodesM fun a => match a with | m => if (SmT m) then some (.v (.int .i64 (nodesM m))) else none
theorem e_NodesM {m : Mc} (hc : (SmT m)) : s_NodesM [.agg m.d] = some (.v (.int .i64 (nodesM m))) := (sOf_eq i_NodesM m).trans (if_pos hc)
theorem R_NodesM {C : Ctx} {F : IFun} (hspec : ∀ N, maxLen + 10 < N → ∀ (m : Mc), lenOK.lenOKs [.agg m.d] → (SmT m) → runE C N F [.agg m.d] = some (.v (.int .i64 (nodesM m)))) : Runs C F (s_NodesM) := runs_of i_NodesM fun N hN m r hl hf => by
  simp only [Option.ite_none_right_eq_some, Option.some.injEq] at hf
  obtain ⟨hc, rfl⟩ := hf
  exact hspec N hN m hl hc
theorem lp_nodes (C : Ctx) (N : Nat) (hN : maxLen + 10 < N) (hS : C.T 104 = some (s_Siz 80)) (m : Mc) (k : Nat) (i : Ins) (hk : m.instrs[k]? = some i) (hi : i.effects.length ≤ 100 ∧ ∀ e ∈ i.effects, (e.addr.size ≤ 500 ∧ e.addr.depth ≤ 80) ∧ (e.value.size ≤ 500 ∧ e.value.depth ≤ 80) ∧ (e.cond.size ≤ 500 ∧ e.cond.depth ≤ 80)) (n : Int) (hn0 : 0 ≤ n) (hn1 : n ≤ 100000000) {β : Type} {K : Option (Ex × St) → Option β} {r : β} {σ : St}
    (h0 : trim [1, 3, 4, 5] 1 σ = some ⟨[(1, .ptr 0 0), (3, .v (.int .i64 n)), (4, .v (.int .i64 k)), (5, .v (.int .i64 ((0 : Nat) : Int)))], [(0, .box m.d)], 1⟩)
    (hK : outK K (ev C N lp40x0 ⟨[(1, .ptr 0 0), (3, .v (.int .i64 (n + insN i))), (4, .v (.int .i64 k)), (5, .v (.int .i64 i.effects.length))], [(0, .box m.d)], 1⟩) = some r) : ∀ I, iter (ev C N lp40x0) (trim [1, 3, 4, 5] 1) N σ = I → K I = some r := by
  have hml := maxLen_ge
  have hfold : ∀ (l : List Ef) (a : Int), l.foldl (fun a e => a + efN e) a = a + (l.map efN).sum := by
    intro l
    induction l with
    | nil => intro a; simp
    | cons e l ih => intro a; rw [List.foldl_cons, ih, List.map_cons, List.sum_cons, Int.add_assoc]
  refine iter_all i.effects (fun j a => ⟨[(1, .ptr 0 0), (3, .v (.int .i64 a)), (4, .v (.int .i64 k)), (5, .v (.int .i64 j))], [(0, .box m.d)], 1⟩) (fun a e => a + efN e) (fun j a => n ≤ a ∧ a ≤ n + 1500 * j) n (by omega) hN h0 ⟨Int.le_refl _, by omega⟩ ?_ ?_
  · rintro j a e hj hjw he ⟨ha1, ha2⟩
    have hil := (List.getElem?_eq_some_iff.1 he).1
    obtain ⟨⟨x1, x2⟩, ⟨y1, y2⟩, z1, z2⟩ := hi.2 e (List.mem_of_getElem? he)
    have s1 := @e_Siz 80 e.addr ⟨x2, by omega⟩
    have s2 := @e_Siz 80 e.value ⟨y2, by omega⟩
    have s3 := @e_Siz 80 e.cond ⟨z2, by omega⟩
    simp only [T.d_eq] at s1 s2 s3
    have hkk : decide (0 ≤ (k : Int)) = true := decide_eq_true (by omega)
    have w1 : IntKind.i64.wrap ((e.addr.size : Int) + (e.value.size : Int)) = (e.addr.size : Int) + (e.value.size : Int) := wr _ (by omega) (by omega)
    have w2 : IntKind.i64.wrap ((e.addr.size : Int) + (e.value.size : Int) + (e.cond.size : Int)) = efN e := wr _ (by omega) (by omega)
    have hef : 0 ≤ efN e ∧ efN e ≤ 1500 := by unfold efN; omega
    have w3 : IntKind.i64.wrap (a + efN e) = a + efN e := wr _ (by omega) (by omega)
    refine ⟨?_, by omega, by omega⟩
    simp -dsimp only [lp40x0, Mc.d, Ins.d, Ef.d, T.d_eq, hj, hjw, he, hk, hkk, hS, s1, s2, s3, w1, w2, w3, EVs, ↓EVd, ↓reduceIte, zA, zB, zC, zD, zE, zF, reduceBEq, reduceCtorEq, zG, zH, zI, zJ, zK, dcells, okc]
  · rintro _
    rw [hfold]
    exact hK
theorem r_Nodes (C : Ctx) (hS : C.T 104 = some (s_Siz 80)) : Runs C ir40 s_NodesM := R_NodesM fun N hN m hl hc => by
  obtain ⟨c1, c2⟩ := hc
  have hml := maxLen_ge
  simp -dsimp only [runE, run_eq, ir40, Mc.d, EVs, ↓EVd, ↓reduceIte, zA, zB, zC, zD, zE, zF, reduceBEq, reduceCtorEq, zG, zH, zI, zJ, zK, dcells, okc]
  generalize hI : iter _ _ _ _ = I
  revert I
  have hfold : ∀ (l : List Ins) (a : Int), l.foldl (fun a e => a + insN e) a = a + (l.map insN).sum := by
    intro l
    induction l with
    | nil => intro a; simp
    | cons e l ih => intro a; rw [List.foldl_cons, ih, List.map_cons, List.sum_cons, Int.add_assoc]
  have hins : ∀ i ∈ m.instrs, 0 ≤ insN i ∧ insN i ≤ 150000 := by
    intro i hi
    obtain ⟨d1, d2⟩ := c2 i hi
    have : ∀ l : List Ef, (∀ e ∈ l, e ∈ i.effects) → 0 ≤ (l.map efN).sum ∧ (l.map efN).sum ≤ 1500 * l.length := by
      intro l
      induction l with
      | nil => intro _; simp
      | cons e l ih =>
        intro h
        have h1 := ih fun x hx => h x (List.mem_cons_of_mem _ hx)
        obtain ⟨⟨x1, x2⟩, ⟨y1, y2⟩, z1, z2⟩ := d2 e (h e List.mem_cons_self)
        have hef : 0 ≤ efN e ∧ efN e ≤ 1500 := by unfold efN; omega
        rw [List.map_cons, List.sum_cons, List.length_cons]
        omega
    have := this i.effects fun _ h => h
    unfold insN
    omega
  have e0 : nodesM m = m.instrs.foldl (fun a e => a + insN e) 0 := by rw [hfold, Int.zero_add]; rfl
  rw [e0]
  refine iter_all m.instrs (fun j a => ⟨[(1, .ptr 0 0), (3, .v (.int .i64 a)), (4, .v (.int .i64 j))], [(0, .box m.d)], 1⟩) (fun a i => a + insN i) (fun j a => 0 ≤ a ∧ a ≤ 150000 * j) 0 (by omega) hN ?_ ⟨Int.le_refl _, by omega⟩ ?_ ?_
  · simp -dsimp only [Mc.d, EVs, ↓EVd, ↓reduceIte, zA, zB, zC, zD, zE, zF, reduceBEq, reduceCtorEq, zG, zH, zI, zJ, zK, dcells, okc]
  · rintro j a i hj hjw hi ⟨ha1, ha2⟩
    have hil := (List.getElem?_eq_some_iff.1 hi).1
    have hb := hins i (List.mem_of_getElem? hi)
    refine ⟨?_, by omega, by omega⟩
    simp -dsimp only [lp40x1, Mc.d, hj, hi, EVs, ↓EVd, ↓reduceIte, zA, zB, zC, zD, zE, zF, reduceBEq, reduceCtorEq, zG, zH, zI, zJ, zK, dcells, okc]
    generalize hL : iter _ _ _ _ = L
    revert L
    refine lp_nodes C N hN hS m j i hi (c2 i (List.mem_of_getElem? hi)) a ha1 (by omega) ?_ ?_
    · simp -dsimp only [Mc.d, EVs, ↓EVd, ↓reduceIte, zA, zB, zC, zD, zE, zF, reduceBEq, reduceCtorEq, zG, zH, zI, zJ, zK, dcells, okc]
    · simp -dsimp only [lp40x0, Mc.d, Ins.d, hi, hjw, EVs, ↓EVd, ↓reduceIte, zA, zB, zC, zD, zE, zF, reduceBEq, reduceCtorEq, zG, zH, zI, zJ, zK, dcells, okc]
  · intro _
    simp -dsimp only [lp40x1, Mc.d, EVs, ↓EVd, ↓reduceIte, zA, zB, zC, zD, zE, zF, reduceBEq, reduceCtorEq, zG, zH, zI, zJ, zK, dcells, okc]
end Go.Proofs.Dv
set_option linter.unusedVariables false
set_option linter.unusedSimpArgs false
set_option maxRecDepth 100000
namespace Go.Proofs.Dv
open Go.RowKit
open Nat renaming reduceEqDiff → zA, reduceAdd → zB, reduceSub → zC, reduceLeDiff → zD, reduceLT → zE, reduceMul → zF
open Int renaming reduceToNat → zG, reduceLE → zH, reduceLT → zI
open List renaming set_cons_zero → zJ, set_cons_succ → zK
def gb1 (b : Bk) : Bool := decide ((74 : Int) < (b.regs.length : Int)) || decide ((100 : Int) < (b.name.size : Int))
def go1 (o : Opn) : Bool := decide ((14 : Int) < (o.pieces.length : Int)) || decide ((100 : Int) < (o.name.size : Int))
def ge1 (e : Ef) : Bool := (greatT e.addr || greatT e.value) || greatT e.cond
def gi1 (i : Ins) : Bool := (decide ((14 : Int) < (i.operands.length : Int)) || decide ((14 : Int) < (i.effects.length : Int))) || decide ((100 : Int) < (i.name.size : Int))
def giOK (i : Ins) : Bool := !gi1 i && (i.operands.all (fun o => !go1 o) && i.effects.all (fun e => !ge1 e))
def gHead (m : Mc) : Bool := ((((decide ((100 : Int) < (m.name.size : Int)) || decide ((74 : Int) < (m.regs.length : Int))) || decide ((26 : Int) < (m.banks.length : Int))) || decide ((18 : Int) < (m.units.length : Int))) || decide ((74 : Int) < (m.instrs.length : Int)))
def greatM (m : Mc) : Bool := bif gHead m then true else bif !m.banks.all (fun b => !gb1 b) then true else bif !m.instrs.all giOK then true else decide ((1500 : Int) < nodesM m)
theorem giOK_sm {m : Mc} (h1 : gHead m = false) (h2 : m.instrs.all giOK = true) : SmT m := by
  simp only [gHead, Bool.or_eq_false_iff, decide_eq_false_iff_not] at h1
  refine ⟨by omega, fun i hi => ?_⟩
  have h3 := List.all_eq_true.1 h2 i hi
  simp only [giOK, gi1, Bool.and_eq_true, Bool.not_eq_true', Bool.or_eq_false_iff, decide_eq_false_iff_not, List.all_eq_true] at h3
  refine ⟨by omega, fun e he => ?_⟩
  have h4 := h3.2.2 e he
  simp only [ge1, Bool.or_eq_false_iff] at h4
  obtain ⟨⟨a1, a2⟩, a3⟩ := h4
  have a1 := great_small a1
  have a2 := great_small a2
  have a3 := great_small a3
  exact ⟨⟨a1.2.1, a1.1⟩, ⟨a2.2.1, a2.1⟩, a3.2.1, a3.1⟩
theorem lp4o (C : Ctx) (N : Nat) (hN : maxLen + 10 < N) (m : Mc) (s : Ins) (i : Nat) (hl : s.operands.length ≤ maxLen) {σ : St} {J : Option (Ex × St)} (hJ : iter (ev C N lp11x1) (trim [1, 4, 5, 6] 2) N σ = J)
    (h0 : trim [1, 4, 5, 6] 2 σ = some ⟨[(1, .ptr 0 0), (4, .v (.int .i64 i)), (5, .ptr 1 0), (6, .v (.int .i64 ((0 : Nat) : Int)))], [(1, .box s.d), (0, .box m.d)], 2⟩) :
    (s.operands.all (fun o => !go1 o) = true → J = some (.ex 4, ⟨[(93, .v (.bool false)), (92, .v (.int .i64 s.operands.length)), (91, .lst false (s.operands.map Opn.d)), (90, .ptr 1 3), (89, .v (.int .i64 s.operands.length)), (1, .ptr 0 0), (4, .v (.int .i64 i)), (5, .ptr 1 0), (6, .v (.int .i64 s.operands.length))], [(1, .box s.d), (0, .box m.d)], 2⟩)) ∧
    (s.operands.all (fun o => !go1 o) = false → ∃ σ', J = some (.rt, σ') ∧ lkf σ'.fr 2 = .v (.bool true)) := by
  have key := rloopJ (d := .v (.bool true)) (ret := 2) (e := 4) hJ s.operands (fun j => ⟨[(1, .ptr 0 0), (4, .v (.int .i64 i)), (5, .ptr 1 0), (6, .v (.int .i64 j))], [(1, .box s.d), (0, .box m.d)], 2⟩) (fun _ o => !go1 o)
    (σe := ⟨[(93, .v (.bool false)), (92, .v (.int .i64 s.operands.length)), (91, .lst false (s.operands.map Opn.d)), (90, .ptr 1 3), (89, .v (.int .i64 s.operands.length)), (1, .ptr 0 0), (4, .v (.int .i64 i)), (5, .ptr 1 0), (6, .v (.int .i64 s.operands.length))], [(1, .box s.d), (0, .box m.d)], 2⟩) hl hN h0 ?_ ?_ (by simp -dsimp only [lp11x1, Ins.d, EVs, ↓EVd, ↓reduceIte, zA, zB, zC, zD, zE, zF, reduceBEq, reduceCtorEq, zG, zH, zI, zJ, zK, dcells, okc])
  · rw [allI_all] at key
    exact key
  · intro j o hj hjw ho hp
    simp only [go1, Bool.not_eq_true', Bool.or_eq_false_iff] at hp
    simp -dsimp only [lp11x1, Mc.d, Ins.d, Opn.d, hj, hjw, ho, hp.1, hp.2, EVs, ↓EVd, ↓reduceIte, zA, zB, zC, zD, zE, zF, reduceBEq, reduceCtorEq, zG, zH, zI, zJ, zK, dcells, okc]
  · intro j o hj ho hp
    simp only [go1, Bool.not_eq_false'] at hp
    cases c1 : decide ((14 : Int) < (o.pieces.length : Int))
    · rw [c1, Bool.false_or] at hp
      simp -dsimp only [EVq, lp11x1, Mc.d, Ins.d, Opn.d, hj, ho, c1, hp, EVs, ↓EVd, ↓reduceIte, zA, zB, zC, zD, zE, zF, reduceBEq, reduceCtorEq, zG, zH, zI, zJ, zK, dcells, okc]
    · simp -dsimp only [EVq, lp11x1, Mc.d, Ins.d, Opn.d, hj, ho, c1, EVs, ↓EVd, ↓reduceIte, zA, zB, zC, zD, zE, zF, reduceBEq, reduceCtorEq, zG, zH, zI, zJ, zK, dcells, okc]
theorem lp4e (C : Ctx) (N : Nat) (hN : maxLen + 10 < N) (hG : C.T 39 = some s_Great02) (m : Mc) (s : Ins) (i : Nat) (hl : s.effects.length ≤ maxLen) {σ : St} {J : Option (Ex × St)} (hJ : iter (ev C N lp11x2) (trim [1, 4, 5, 7] 2) N σ = J)
    (h0 : trim [1, 4, 5, 7] 2 σ = some ⟨[(1, .ptr 0 0), (4, .v (.int .i64 i)), (5, .ptr 1 0), (7, .v (.int .i64 ((0 : Nat) : Int)))], [(1, .box s.d), (0, .box m.d)], 2⟩) :
    (s.effects.all (fun e => !ge1 e) = true → J = some (.ex 6, ⟨[(118, .v (.bool false)), (117, .v (.int .i64 s.effects.length)), (116, .lst false (s.effects.map Ef.d)), (115, .ptr 1 4), (114, .v (.int .i64 s.effects.length)), (1, .ptr 0 0), (4, .v (.int .i64 i)), (5, .ptr 1 0), (7, .v (.int .i64 s.effects.length))], [(1, .box s.d), (0, .box m.d)], 2⟩)) ∧
    (s.effects.all (fun e => !ge1 e) = false → ∃ σ', J = some (.rt, σ') ∧ lkf σ'.fr 2 = .v (.bool true)) := by
  have key := rloopJ (d := .v (.bool true)) (ret := 2) (e := 6) hJ s.effects (fun j => ⟨[(1, .ptr 0 0), (4, .v (.int .i64 i)), (5, .ptr 1 0), (7, .v (.int .i64 j))], [(1, .box s.d), (0, .box m.d)], 2⟩) (fun _ e => !ge1 e)
    (σe := ⟨[(118, .v (.bool false)), (117, .v (.int .i64 s.effects.length)), (116, .lst false (s.effects.map Ef.d)), (115, .ptr 1 4), (114, .v (.int .i64 s.effects.length)), (1, .ptr 0 0), (4, .v (.int .i64 i)), (5, .ptr 1 0), (7, .v (.int .i64 s.effects.length))], [(1, .box s.d), (0, .box m.d)], 2⟩) hl hN h0 ?_ ?_ (by simp -dsimp only [lp11x2, Ins.d, EVs, ↓EVd, ↓reduceIte, zA, zB, zC, zD, zE, zF, reduceBEq, reduceCtorEq, zG, zH, zI, zJ, zK, dcells, okc])
  · rw [allI_all] at key
    exact key
  · intro j e hj hjw he hp
    have g1 := @e_Great02 e.addr
    have g2 := @e_Great02 e.value
    have g3 := @e_Great02 e.cond
    simp only [T.d_eq] at g1 g2 g3
    simp only [ge1, Bool.not_eq_true', Bool.or_eq_false_iff] at hp
    simp -dsimp only [lp11x2, Mc.d, Ins.d, Ef.d, T.d_eq, hj, hjw, he, hG, g1, g2, g3, hp.1.1, hp.1.2, hp.2, EVs, ↓EVd, ↓reduceIte, zA, zB, zC, zD, zE, zF, reduceBEq, reduceCtorEq, zG, zH, zI, zJ, zK, dcells, okc]
  · intro j e hj he hp
    have g1 := @e_Great02 e.addr
    have g2 := @e_Great02 e.value
    have g3 := @e_Great02 e.cond
    simp only [T.d_eq] at g1 g2 g3
    simp only [ge1, Bool.not_eq_false'] at hp
    cases c1 : greatT e.addr
    · cases c2 : greatT e.value
      · rw [c1, c2, Bool.false_or, Bool.false_or] at hp
        simp -dsimp only [EVq, lp11x2, Mc.d, Ins.d, Ef.d, T.d_eq, hj, he, hG, g1, g2, g3, c1, c2, hp, EVs, ↓EVd, ↓reduceIte, zA, zB, zC, zD, zE, zF, reduceBEq, reduceCtorEq, zG, zH, zI, zJ, zK, dcells, okc]
      · simp -dsimp only [EVq, lp11x2, Mc.d, Ins.d, Ef.d, T.d_eq, hj, he, hG, g1, g2, g3, c1, c2, EVs, ↓EVd, ↓reduceIte, zA, zB, zC, zD, zE, zF, reduceBEq, reduceCtorEq, zG, zH, zI, zJ, zK, dcells, okc]
    · simp -dsimp only [EVq, lp11x2, Mc.d, Ins.d, Ef.d, T.d_eq, hj, he, hG, g1, g2, g3, c1, EVs, ↓EVd, ↓reduceIte, zA, zB, zC, zD, zE, zF, reduceBEq, reduceCtorEq, zG, zH, zI, zJ, zK, dcells, okc]
def x_GreatM (a : Mc) : List D := match a with | m => [.agg m.d]
theorem i_GreatM : ∀ a b, x_GreatM a = x_GreatM b → a = b := by
  rintro m m' h
  first | simpa [x_GreatM, INJ, and_assoc, Int.ofNat_inj] using h | (simp [x_GreatM, INJ, and_assoc, Int.ofNat_inj] at h; simp_all)
noncomputable def s_GreatM : List D → Option D := sOf x_GreatM fun a => match a with | m => some (.v (.bool (greatM m)))
theorem e_GreatM {m : Mc} : s_GreatM [.agg m.d] = some (.v (.bool (greatM m))) := sOf_eq i_GreatM m
theorem R_GreatM {C : Ctx} {F : IFun} (hspec : ∀ N, maxLen + 10 < N → ∀ (m : Mc), lenOK.lenOKs [.agg m.d] → runE C N F [.agg m.d] = some (.v (.bool (greatM m)))) : Runs C F s_GreatM := runs_of i_GreatM fun N hN m r hl hf => by
  simp only [Option.some.injEq] at hf
  subst hf
  exact hspec N hN m hl
set_option maxHeartbeats 2000000 in
theorem r_Great8 (C : Ctx) (hG : C.T 39 = some s_Great02) (hNd : C.T 40 = some s_NodesM) : Runs C ir11 s_GreatM := R_GreatM fun N hN m hl => by
  have hlb : m.banks.length ≤ maxLen ∧ m.instrs.length ≤ maxLen := by
    simp only [Mc.d, EVl, List.length_map] at hl
    exact ⟨hl.1.2.2.2.2.1.1, hl.1.2.2.2.2.2.2.1.1⟩
  have hio : ∀ s ∈ m.instrs, s.operands.length ≤ maxLen ∧ s.effects.length ≤ maxLen := by
    intro s hs
    simp only [Mc.d, EVl, List.length_map] at hl
    have := (lenOKss_iff.1 hl.1.2.2.2.2.2.2.1.2) _ (List.mem_map_of_mem hs)
    simp only [Ins.d, EVl, List.length_map] at this
    exact ⟨this.2.2.2.1.1, this.2.2.2.2.1.1⟩
  unfold greatM
  cases q0 : decide ((100 : Int) < (m.name.size : Int))
  case true => simp -dsimp only [runE, run_eq, ir11, Mc.d, gHead, q0, EVs, ↓EVd, ↓reduceIte, zA, zB, zC, zD, zE, zF, reduceBEq, reduceCtorEq, zG, zH, zI, zJ, zK, dcells, okc]
  cases q1 : decide ((74 : Int) < (m.regs.length : Int))
  case true => simp -dsimp only [runE, run_eq, ir11, Mc.d, gHead, q0, q1, EVs, ↓EVd, ↓reduceIte, zA, zB, zC, zD, zE, zF, reduceBEq, reduceCtorEq, zG, zH, zI, zJ, zK, dcells, okc]
  cases q2 : decide ((26 : Int) < (m.banks.length : Int))
  case true => simp -dsimp only [runE, run_eq, ir11, Mc.d, gHead, q0, q1, q2, EVs, ↓EVd, ↓reduceIte, zA, zB, zC, zD, zE, zF, reduceBEq, reduceCtorEq, zG, zH, zI, zJ, zK, dcells, okc]
  cases q3 : decide ((18 : Int) < (m.units.length : Int))
  case true => simp -dsimp only [runE, run_eq, ir11, Mc.d, gHead, q0, q1, q2, q3, EVs, ↓EVd, ↓reduceIte, zA, zB, zC, zD, zE, zF, reduceBEq, reduceCtorEq, zG, zH, zI, zJ, zK, dcells, okc]
  cases q4 : decide ((74 : Int) < (m.instrs.length : Int))
  case true => simp -dsimp only [runE, run_eq, ir11, Mc.d, gHead, q0, q1, q2, q3, q4, EVs, ↓EVd, ↓reduceIte, zA, zB, zC, zD, zE, zF, reduceBEq, reduceCtorEq, zG, zH, zI, zJ, zK, dcells, okc]
  have hh : gHead m = false := by simp only [gHead, q0, q1, q2, q3, q4]; rfl
  rw [hh, cond_false]
  simp -dsimp only [runE, run_eq, ir11, Mc.d, q0, q1, q2, q3, q4, EVs, ↓EVd, ↓reduceIte, zA, zB, zC, zD, zE, zF, reduceBEq, reduceCtorEq, zG, zH, zI, zJ, zK, dcells, okc]
  generalize hI : iter _ _ _ _ = I
  have k1 := rloopJ (d := .v (.bool true)) (ret := 2) (e := 0) hI m.banks (fun j => ⟨[(1, .ptr 0 0), (3, .v (.int .i64 j))], [(0, .box m.d)], 1⟩) (fun _ b => !gb1 b)
    (σe := ⟨[(40, .v (.bool false)), (39, .v (.int .i64 m.banks.length)), (38, .lst false (m.banks.map Bk.d)), (37, .ptr 0 4), (36, .v (.int .i64 m.banks.length)), (1, .ptr 0 0), (3, .v (.int .i64 m.banks.length))], [(0, .box m.d)], 1⟩) hlb.1 hN (by simp -dsimp only [Mc.d, EVs, ↓EVd, ↓reduceIte, zA, zB, zC, zD, zE, zF, reduceBEq, reduceCtorEq, zG, zH, zI, zJ, zK, dcells, okc]) ?_ ?_ (by simp -dsimp only [lp11x0, Mc.d, EVs, ↓EVd, ↓reduceIte, zA, zB, zC, zD, zE, zF, reduceBEq, reduceCtorEq, zG, zH, zI, zJ, zK, dcells, okc])
  · rw [allI_all] at k1
    cases ha : m.banks.all (fun b => !gb1 b)
    · obtain ⟨σ', rfl, h2⟩ := k1.2 ha
      simp -dsimp only [h2, EVs, ↓EVd, ↓reduceIte, zA, zB, zC, zD, zE, zF, reduceBEq, reduceCtorEq, zG, zH, zI, zJ, zK, dcells, okc]
    obtain rfl := k1.1 ha
    simp -dsimp only [Mc.d, EVs, ↓EVd, ↓reduceIte, zA, zB, zC, zD, zE, zF, reduceBEq, reduceCtorEq, zG, zH, zI, zJ, zK, dcells, okc]
    generalize hJ : iter _ _ _ _ = J
    have k2 := rloopJ (d := .v (.bool true)) (ret := 2) (e := 2) hJ m.instrs (fun j => ⟨[(1, .ptr 0 0), (4, .v (.int .i64 j))], [(0, .box m.d)], 1⟩) (fun _ s => giOK s)
      (σe := ⟨[(65, .v (.bool false)), (64, .v (.int .i64 m.instrs.length)), (63, .lst false (m.instrs.map Ins.d)), (62, .ptr 0 6), (61, .v (.int .i64 m.instrs.length)), (1, .ptr 0 0), (4, .v (.int .i64 m.instrs.length))], [(0, .box m.d)], 1⟩) hlb.2 hN (by simp -dsimp only [Mc.d, EVs, ↓EVd, ↓reduceIte, zA, zB, zC, zD, zE, zF, reduceBEq, reduceCtorEq, zG, zH, zI, zJ, zK, dcells, okc]) ?_ ?_ (by simp -dsimp only [lp11x3, Mc.d, EVs, ↓EVd, ↓reduceIte, zA, zB, zC, zD, zE, zF, reduceBEq, reduceCtorEq, zG, zH, zI, zJ, zK, dcells, okc])
    · rw [allI_all] at k2
      cases hb : m.instrs.all giOK
      · obtain ⟨σ', rfl, h2⟩ := k2.2 hb
        simp -dsimp only [h2, EVs, ↓EVd, ↓reduceIte, zA, zB, zC, zD, zE, zF, reduceBEq, reduceCtorEq, zG, zH, zI, zJ, zK, dcells, okc]
      obtain rfl := k2.1 hb
      have eN := @e_NodesM m (giOK_sm hh hb)
      simp only [Mc.d] at eN
      simp -dsimp only [Mc.d, hNd, eN, EVs, ↓EVd, ↓reduceIte, zA, zB, zC, zD, zE, zF, reduceBEq, reduceCtorEq, zG, zH, zI, zJ, zK, dcells, okc]
    · intro j s hj hjw hs hp
      simp only [giOK, gi1, Bool.and_eq_true, Bool.not_eq_true', Bool.or_eq_false_iff] at hp
      obtain ⟨⟨⟨p1, p2⟩, p3⟩, p4, p5⟩ := hp
      simp -dsimp only [lp11x3, Mc.d, Ins.d, hj, hs, p1, p2, p3, EVs, ↓EVd, ↓reduceIte, zA, zB, zC, zD, zE, zF, reduceBEq, reduceCtorEq, zG, zH, zI, zJ, zK, dcells, okc]
      generalize hL : iter _ _ _ _ = L
      obtain rfl := (lp4o C N hN m s j (hio s (List.mem_of_getElem? hs)).1 hL (by simp -dsimp only [Mc.d, Ins.d, EVs, ↓EVd, ↓reduceIte, zA, zB, zC, zD, zE, zF, reduceBEq, reduceCtorEq, zG, zH, zI, zJ, zK, dcells, okc])).1 p4
      simp -dsimp only [Mc.d, Ins.d, EVs, ↓EVd, ↓reduceIte, zA, zB, zC, zD, zE, zF, reduceBEq, reduceCtorEq, zG, zH, zI, zJ, zK, dcells, okc]
      generalize hL2 : iter _ _ _ _ = L2
      obtain rfl := (lp4e C N hN hG m s j (hio s (List.mem_of_getElem? hs)).2 hL2 (by simp -dsimp only [Mc.d, Ins.d, EVs, ↓EVd, ↓reduceIte, zA, zB, zC, zD, zE, zF, reduceBEq, reduceCtorEq, zG, zH, zI, zJ, zK, dcells, okc])).1 p5
      simp -dsimp only [Mc.d, Ins.d, hjw, EVs, ↓EVd, ↓reduceIte, zA, zB, zC, zD, zE, zF, reduceBEq, reduceCtorEq, zG, zH, zI, zJ, zK, dcells, okc]
    · intro j s hj hs hp
      cases p1 : decide ((14 : Int) < (s.operands.length : Int))
      case true => simp -dsimp only [EVq, lp11x3, Mc.d, Ins.d, hj, hs, p1, EVs, ↓EVd, ↓reduceIte, zA, zB, zC, zD, zE, zF, reduceBEq, reduceCtorEq, zG, zH, zI, zJ, zK, dcells, okc]
      cases p2 : decide ((14 : Int) < (s.effects.length : Int))
      case true => simp -dsimp only [EVq, lp11x3, Mc.d, Ins.d, hj, hs, p1, p2, EVs, ↓EVd, ↓reduceIte, zA, zB, zC, zD, zE, zF, reduceBEq, reduceCtorEq, zG, zH, zI, zJ, zK, dcells, okc]
      cases p3 : decide ((100 : Int) < (s.name.size : Int))
      case true => simp -dsimp only [EVq, lp11x3, Mc.d, Ins.d, hj, hs, p1, p2, p3, EVs, ↓EVd, ↓reduceIte, zA, zB, zC, zD, zE, zF, reduceBEq, reduceCtorEq, zG, zH, zI, zJ, zK, dcells, okc]
      have hg : gi1 s = false := by simp only [gi1, p1, p2, p3]; rfl
      simp only [giOK, hg, Bool.not_false, Bool.true_and] at hp
      simp -dsimp only [EVq, lp11x3, Mc.d, Ins.d, hj, hs, p1, p2, p3, EVs, ↓EVd, ↓reduceIte, zA, zB, zC, zD, zE, zF, reduceBEq, reduceCtorEq, zG, zH, zI, zJ, zK, dcells, okc]
      generalize hL : iter _ _ _ _ = L
      have ho := lp4o C N hN m s j (hio s (List.mem_of_getElem? hs)).1 hL (by simp -dsimp only [Mc.d, Ins.d, EVs, ↓EVd, ↓reduceIte, zA, zB, zC, zD, zE, zF, reduceBEq, reduceCtorEq, zG, zH, zI, zJ, zK, dcells, okc])
      cases p4 : s.operands.all (fun o => !go1 o)
      · obtain ⟨σ', rfl, h2⟩ := ho.2 p4
        simp -dsimp only [EVq, h2, EVs, ↓EVd, ↓reduceIte, zA, zB, zC, zD, zE, zF, reduceBEq, reduceCtorEq, zG, zH, zI, zJ, zK, dcells, okc]
      obtain rfl := ho.1 p4
      rw [p4, Bool.true_and] at hp
      simp -dsimp only [EVq, Mc.d, Ins.d, EVs, ↓EVd, ↓reduceIte, zA, zB, zC, zD, zE, zF, reduceBEq, reduceCtorEq, zG, zH, zI, zJ, zK, dcells, okc]
      generalize hL2 : iter _ _ _ _ = L2
      obtain ⟨σ', rfl, h2⟩ := (lp4e C N hN hG m s j (hio s (List.mem_of_getElem? hs)).2 hL2 (by simp -dsimp only [Mc.d, Ins.d, EVs, ↓EVd, ↓reduceIte, zA, zB, zC, zD, zE, zF, reduceBEq, reduceCtorEq, zG, zH, zI, zJ, zK, dcells, okc])).2 hp
      simp -dsimp only [EVq, h2, EVs, ↓EVd, ↓reduceIte, zA, zB, zC, zD, zE, zF, reduceBEq, reduceCtorEq, zG, zH, zI, zJ, zK, dcells, okc]
  · intro j b hj hjw hb hp
    simp only [gb1, Bool.not_eq_true', Bool.or_eq_false_iff] at hp
    simp -dsimp only [lp11x0, Mc.d, Bk.d, hj, hjw, hb, hp.1, hp.2, EVs, ↓EVd, ↓reduceIte, zA, zB, zC, zD, zE, zF, reduceBEq, reduceCtorEq, zG, zH, zI, zJ, zK, dcells, okc]
  · intro j b hj hb hp
    simp only [gb1, Bool.not_eq_false'] at hp
    cases c1 : decide ((74 : Int) < (b.regs.length : Int))
    · rw [c1, Bool.false_or] at hp
      simp -dsimp only [EVq, lp11x0, Mc.d, Bk.d, hj, hb, c1, hp, EVs, ↓EVd, ↓reduceIte, zA, zB, zC, zD, zE, zF, reduceBEq, reduceCtorEq, zG, zH, zI, zJ, zK, dcells, okc]
    · simp -dsimp only [EVq, lp11x0, Mc.d, Bk.d, hj, hb, c1, EVs, ↓EVd, ↓reduceIte, zA, zB, zC, zD, zE, zF, reduceBEq, reduceCtorEq, zG, zH, zI, zJ, zK, dcells, okc]
end Go.Proofs.Dv
set_option linter.unusedVariables false
set_option linter.unusedSimpArgs false
set_option maxRecDepth 100000
namespace Go.Proofs.Dv
open Go.RowKit
open Nat renaming reduceEqDiff → zA, reduceAdd → zB, reduceSub → zC, reduceLeDiff → zD, reduceLT → zE, reduceMul → zF
open Int renaming reduceToNat → zG, reduceLE → zH, reduceLT → zI
open List renaming set_cons_zero → zJ, set_cons_succ → zK
mutual
theorem T.tw_wf : ∀ t : T, t.tw → t.wf ∧ ∀ u ∈ t.pre, 0 ≤ u.kind
  | .mk k w b n l s, h => by
    rw [T.tw] at h
    obtain ⟨h1, h2⟩ := T.tws_wf s h.2.2.2.2
    refine ⟨by rw [T.wf]; exact ⟨h.2.2.1, h1⟩, fun u hu => ?_⟩
    rw [T.pre_eq] at hu
    rcases List.mem_cons.1 hu with rfl | hu
    · exact h.1
    · exact h2 u hu
theorem T.tws_wf : ∀ s : List T, T.tws s → T.wfs s ∧ ∀ u ∈ T.pres s, 0 ≤ u.kind
  | [], _ => ⟨by rw [T.wfs]; trivial, fun u hu => by rw [T.pres] at hu; simp at hu⟩
  | t :: ts, h => by
    rw [T.tws] at h
    obtain ⟨h1, h2⟩ := T.tw_wf t h.1
    obtain ⟨h3, h4⟩ := T.tws_wf ts h.2
    refine ⟨by rw [T.wfs]; exact ⟨h1, h3⟩, fun u hu => ?_⟩
    rw [pres_cons] at hu
    rcases List.mem_append.1 hu with hu | hu
    · exact h2 u hu
    · exact h4 u hu
end
theorem great_terms {m : Mc} (hg : greatM m = false) (ht : m.tw) (hl : lenOK.lenOKs m.d) : MZ m ∧ ∀ i ∈ m.instrs, ∀ e ∈ i.effects, TOK e.addr ∧ TOK e.value ∧ TOK e.cond := by
  unfold greatM at hg
  cases h1 : gHead m with
  | true => rw [h1] at hg; simp at hg
  | false =>
    rw [h1, cond_false] at hg
    cases h2 : m.banks.all (fun b => !gb1 b) with
    | false => rw [h2] at hg; simp at hg
    | true =>
      rw [h2] at hg
      simp only [Bool.not_true, cond_false] at hg
      cases h3 : m.instrs.all giOK with
      | false => rw [h3] at hg; simp at hg
      | true =>
        obtain ⟨_, hsm⟩ := giOK_sm h1 h3
        have hll : ∀ i ∈ m.instrs, ∀ e ∈ i.effects, lenOK.lenOKs e.addr.d ∧ lenOK.lenOKs e.value.d ∧ lenOK.lenOKs e.cond.d := by
          intro i hi e he
          simp only [Mc.d, EVl, List.length_map] at hl
          have h4 := (lenOKss_iff.1 hl.2.2.2.2.2.2.1.2) _ (List.mem_map_of_mem hi)
          simp only [Ins.d, EVl, List.length_map] at h4
          have h5 := (lenOKss_iff.1 h4.2.2.2.2.1.2) _ (List.mem_map_of_mem he)
          rw [lenOKs_iff] at h5
          refine ⟨lenOKs_iff.2 fun d hd => h5 d ?_, lenOKs_iff.2 fun d hd => h5 d ?_, lenOKs_iff.2 fun d hd => h5 d ?_⟩ <;> simp [Ef.d, hd]
        refine ⟨fun i hi => ⟨(ht.1 i hi).1, (ht.1 i hi).2.1, fun e he => ?_⟩, fun i hi e he => ?_⟩
        · obtain ⟨⟨a1, a2⟩, ⟨b1, b2⟩, c1, c2⟩ := (hsm i hi).2 e he
          obtain ⟨d1, d2, d3⟩ := (ht.1 i hi).2.2 e he
          exact ⟨⟨by omega, by omega, (T.tw_wf _ d1).1⟩, ⟨by omega, by omega, (T.tw_wf _ d2).1⟩, by omega, by omega, (T.tw_wf _ d3).1⟩
        · obtain ⟨⟨a1, a2⟩, ⟨b1, b2⟩, c1, c2⟩ := (hsm i hi).2 e he
          obtain ⟨d1, d2, d3⟩ := (ht.1 i hi).2.2 e he
          obtain ⟨l1, l2, l3⟩ := hll i hi e he
          exact ⟨⟨by omega, by omega, (T.tw_wf _ d1).2, l1⟩, ⟨by omega, by omega, (T.tw_wf _ d2).2, l2⟩, by omega, by omega, (T.tw_wf _ d3).2, l3⟩
end Go.Proofs.Dv
set_option linter.unusedVariables false
set_option linter.unusedSimpArgs false
set_option maxRecDepth 100000
namespace Go.Proofs.Dv
open Go.RowKit
open Nat renaming reduceEqDiff → zA, reduceAdd → zB, reduceSub → zC, reduceLeDiff → zD, reduceLT → zE, reduceMul → zF
open Int renaming reduceToNat → zG, reduceLE → zH, reduceLT → zI
open List renaming set_cons_zero → zJ, set_cons_succ → zK
def TOKs (m : Mc) : Prop := ∀ i ∈ m.instrs, ∀ e ∈ i.effects, TOK e.addr ∧ TOK e.value ∧ TOK e.cond
def hS (m : Mc) (s : ByteArray) : List (Nat × Blk) := [(1, .box [.v (.string s)]), (0, .box m.d)]
end Go.Proofs.Dv
set_option linter.unusedVariables false
set_option linter.unusedSimpArgs false
set_option maxRecDepth 100000
namespace Go.Proofs.Dv
open Go.RowKit
open Nat renaming reduceEqDiff → zA, reduceAdd → zB, reduceSub → zC, reduceLeDiff → zD, reduceLT → zE, reduceMul → zF
open Int renaming reduceToNat → zG, reduceLE → zH, reduceLT → zI
open List renaming set_cons_zero → zJ, set_cons_succ → zK
def topsAux : Nat → List Rg → List Int
  | _, [] => []
  | i, r :: rs => if r.of_ = -1 then (i : Int) :: topsAux (i + 1) rs else topsAux (i + 1) rs
def topsL (m : Mc) : List Int := topsAux 0 m.regs
def topStep (a : Nat × List Int) (r : Rg) : Nat × List Int := (a.1 + 1, if r.of_ = -1 then a.2 ++ [(a.1 : Int)] else a.2)
theorem tops_fold : ∀ (rs : List Rg) (i : Nat) (l : List Int), (rs.foldl topStep (i, l)).2 = l ++ topsAux i rs
  | [], i, l => by simp [topsAux]
  | r :: rs, i, l => by
    rw [List.foldl_cons, topsAux]
    by_cases h : r.of_ = -1
    · rw [if_pos h, topStep, if_pos h, tops_fold rs]; simp
    · rw [if_neg h, topStep, if_neg h, tops_fold rs]
theorem tops_mem {x : Int} : ∀ (rs : List Rg) (k : Nat), x ∈ topsAux k rs ↔ ∃ (j : Nat) (r : Rg), rs[j]? = some r ∧ r.of_ = -1 ∧ x = ((k + j : Nat) : Int)
  | [], k => by simp [topsAux]
  | r :: rs, k => by
    rw [topsAux]
    have ih := tops_mem (x := x) rs (k + 1)
    constructor
    · intro h
      have h2 : (r.of_ = -1 ∧ x = (k : Int)) ∨ x ∈ topsAux (k + 1) rs := by
        split at h
        · rename_i hr
          rcases List.mem_cons.1 h with h | h
          · exact .inl ⟨hr, h⟩
          · exact .inr h
        · exact .inr h
      rcases h2 with ⟨hr, hx⟩ | h2
      · exact ⟨0, r, rfl, hr, hx⟩
      · obtain ⟨j, q, h3, h4, h5⟩ := ih.1 h2
        exact ⟨j + 1, q, by simpa using h3, h4, by rw [h5]; congr 1; omega⟩
    · rintro ⟨j, q, h3, h4, h5⟩
      cases j with
      | zero =>
        simp only [List.getElem?_cons_zero, Option.some.injEq] at h3
        subst h3
        rw [if_pos h4, h5]
        exact List.mem_cons_self
      | succ j =>
        have : x ∈ topsAux (k + 1) rs := ih.2 ⟨j, q, by simpa using h3, h4, by rw [h5]; congr 1; omega⟩
        split
        · exact List.mem_cons_of_mem _ this
        · exact this
theorem tops_sorted : ∀ (rs : List Rg) (k : Nat), (topsAux k rs).Pairwise (fun a b => a < b)
  | [], k => by rw [topsAux]; exact List.Pairwise.nil
  | r :: rs, k => by
    rw [topsAux]
    split
    · refine List.pairwise_cons.2 ⟨fun x hx => ?_, tops_sorted rs (k + 1)⟩
      obtain ⟨j, _, _, _, h⟩ := (tops_mem rs (k + 1)).1 hx
      rw [h]; omega
    · exact tops_sorted rs (k + 1)
theorem tops_len : ∀ (rs : List Rg) (k : Nat), (topsAux k rs).length ≤ rs.length
  | [], k => by simp [topsAux]
  | r :: rs, k => by
    rw [topsAux]
    have := tops_len rs (k + 1)
    split <;> simp only [List.length_cons] <;> omega
def x_TopsF (a : Mc) : List D := match a with | m => [.agg m.d]
theorem i_TopsF : ∀ a b, x_TopsF a = x_TopsF b → a = b := by
  rintro m m' h
  first | simpa [x_TopsF, INJ, and_assoc, Int.ofNat_inj] using h | (simp [x_TopsF, INJ, and_assoc, Int.ofNat_inj] at h; simp_all)
open Classical in
noncomputable def s_TopsF : List D → Option D := sOf x_TopsF fun a => match a with | m => if (m.regs.length ≤ 1000) then some (.lst false ((topsL m).map iD)) else none
theorem e_TopsF {m : Mc} (hc : (m.regs.length ≤ 1000)) : s_TopsF [.agg m.d] = some (.lst false ((topsL m).map iD)) := (sOf_eq i_TopsF m).trans (if_pos hc)
theorem R_TopsF {C : Ctx} {F : IFun} (hspec : ∀ N, maxLen + 10 < N → ∀ (m : Mc), lenOK.lenOKs [.agg m.d] → (m.regs.length ≤ 1000) → runE C N F [.agg m.d] = some (.lst false ((topsL m).map iD))) : Runs C F (s_TopsF) := runs_of i_TopsF fun N hN m r hl hf => by
  simp only [Option.ite_none_right_eq_some, Option.some.injEq] at hf
  obtain ⟨hc, rfl⟩ := hf
  exact hspec N hN m hl hc
theorem r_tops (C : Ctx) : Runs C ir84 s_TopsF := R_TopsF fun N hN m hl hc => by
  have hml := maxLen_ge
  have e0 : topsL m = (m.regs.foldl topStep (0, [])).2 := by rw [tops_fold]; rfl
  rw [e0]
  simp -dsimp only [runE, run_eq, ir84, Mc.d, EVs, ↓EVd, ↓reduceIte, zA, zB, zC, zD, zE, zF, reduceBEq, reduceCtorEq, zG, zH, zI, zJ, zK, dcells, okc]
  generalize hI : iter _ _ _ _ = I
  revert I
  refine iter_all m.regs (fun j a => ⟨[(3, .own 1 a.2.length), (7, .lst false (m.regs.map Rg.d)), (8, .v (.int .i64 m.regs.length)), (9, .v (.int .i64 j))], [(1, .row 1 (a.2.map iD)), (0, .box m.d)], 2⟩) topStep (fun j a => a.1 = j ∧ a.2.length ≤ j) (0, []) (by omega) hN ?_ ⟨rfl, Nat.le_refl _⟩ ?_ ?_
  · simp -dsimp only [Mc.d, EVs, ↓EVd, ↓reduceIte, zA, zB, zC, zD, zE, zF, reduceBEq, reduceCtorEq, zG, zH, zI, zJ, zK, dcells, okc]
  · rintro j ⟨a, l⟩ r hj hjw hr ⟨h1, h2⟩
    simp only at h1 h2
    subst h1
    have hil := (List.getElem?_eq_some_iff.1 hr).1
    have hb' : decide ((l.length + 1) * 8 ≤ 140737488355328) = true := decide_eq_true (by omega)
    refine ⟨?_, rfl, ?_⟩
    · by_cases h : r.of_ = -1
      · have h' : decide (r.of_ = -1) = true := decide_eq_true h
        have hst : topStep (a, l) r = (a + 1, l ++ [(a : Int)]) := by simp only [topStep, if_pos h]
        rw [hst]
        simp -dsimp only [lp84x0, Mc.d, Rg.d, iD, hj, hjw, hr, h', hb', List.length_append, List.map_append, EVs, ↓EVd, ↓reduceIte, zA, zB, zC, zD, zE, zF, reduceBEq, reduceCtorEq, zG, zH, zI, zJ, zK, dcells, okc]
      · have h' : decide (r.of_ = -1) = false := decide_eq_false h
        have hst : topStep (a, l) r = (a + 1, l) := by simp only [topStep, if_neg h]
        rw [hst]
        simp -dsimp only [lp84x0, Mc.d, Rg.d, iD, hj, hjw, hr, h', EVs, ↓EVd, ↓reduceIte, zA, zB, zC, zD, zE, zF, reduceBEq, reduceCtorEq, zG, zH, zI, zJ, zK, dcells, okc]
    · unfold topStep
      simp only
      split
      · simp only [List.length_append, List.length_singleton]; omega
      · omega
  · rintro ⟨h1, h2⟩
    simp -dsimp only [lp84x0, Mc.d, EVs, ↓EVd, ↓reduceIte, zA, zB, zC, zD, zE, zF, reduceBEq, reduceCtorEq, zG, zH, zI, zJ, zK, dcells, okc]
theorem r_Tops8 (C : Ctx) : Runs C ir85 s_TopsF := R_TopsF fun N hN m hl hc => by
  have hml := maxLen_ge
  have e0 : topsL m = (m.regs.foldl topStep (0, [])).2 := by rw [tops_fold]; rfl
  rw [e0]
  simp -dsimp only [runE, run_eq, ir85, Mc.d, EVs, ↓EVd, ↓reduceIte, zA, zB, zC, zD, zE, zF, reduceBEq, reduceCtorEq, zG, zH, zI, zJ, zK, dcells, okc]
  generalize hI : iter _ _ _ _ = I
  revert I
  refine iter_all m.regs (fun j a => ⟨[(1, .ptr 0 0), (3, .own 1 a.2.length), (4, .v (.int .i64 j))], [(1, .row 1 (a.2.map iD)), (0, .box m.d)], 2⟩) topStep (fun j a => a.1 = j ∧ a.2.length ≤ j) (0, []) (by omega) hN ?_ ⟨rfl, Nat.le_refl _⟩ ?_ ?_
  · simp -dsimp only [Mc.d, EVs, ↓EVd, ↓reduceIte, zA, zB, zC, zD, zE, zF, reduceBEq, reduceCtorEq, zG, zH, zI, zJ, zK, dcells, okc]
  · rintro j ⟨a, l⟩ r hj hjw hr ⟨h1, h2⟩
    simp only at h1 h2
    subst h1
    have hil := (List.getElem?_eq_some_iff.1 hr).1
    have hb' : decide ((l.length + 1) * 8 ≤ 140737488355328) = true := decide_eq_true (by omega)
    refine ⟨?_, rfl, ?_⟩
    · by_cases h : r.of_ = -1
      · have h' : decide (r.of_ = -1) = true := decide_eq_true h
        have hst : topStep (a, l) r = (a + 1, l ++ [(a : Int)]) := by simp only [topStep, if_pos h]
        rw [hst]
        simp -dsimp only [lp85x0, Mc.d, Rg.d, iD, hj, hjw, hr, h', hb', List.length_append, List.map_append, EVs, ↓EVd, ↓reduceIte, zA, zB, zC, zD, zE, zF, reduceBEq, reduceCtorEq, zG, zH, zI, zJ, zK, dcells, okc]
      · have h' : decide (r.of_ = -1) = false := decide_eq_false h
        have hst : topStep (a, l) r = (a + 1, l) := by simp only [topStep, if_neg h]
        rw [hst]
        simp -dsimp only [lp85x0, Mc.d, Rg.d, iD, hj, hjw, hr, h', EVs, ↓EVd, ↓reduceIte, zA, zB, zC, zD, zE, zF, reduceBEq, reduceCtorEq, zG, zH, zI, zJ, zK, dcells, okc]
    · unfold topStep
      simp only
      split
      · simp only [List.length_append, List.length_singleton]; omega
      · omega
  · rintro ⟨h1, h2⟩
    simp -dsimp only [lp85x0, Mc.d, EVs, ↓EVd, ↓reduceIte, zA, zB, zC, zD, zE, zF, reduceBEq, reduceCtorEq, zG, zH, zI, zJ, zK, dcells, okc]
theorem chkR_regs {m : Mc} (h : chkR m = 0) : m.regs.length ≤ 64 := by
  unfold chkR at h
  cases hs : smallOK m with
  | false => rw [hs] at h; simp at h
  | true =>
    simp only [smallOK, Bool.and_eq_true] at hs
    have := fewB_le hs.1.1.1.1
    omega
def x_NaN (a : Int) : List D := match a with | x => [.v (.int .i64 x)]
theorem i_NaN : ∀ a b, x_NaN a = x_NaN b → a = b := by
  rintro x x' h
  first | simpa [x_NaN, INJ, and_assoc, Int.ofNat_inj] using h | (simp [x_NaN, INJ, and_assoc, Int.ofNat_inj] at h; simp_all)
noncomputable def s_NaN : List D → Option D := sOf x_NaN fun a => match a with | x => some (.v (.bool false))
theorem e_NaN {x : Int} : s_NaN [.v (.int .i64 x)] = some (.v (.bool false)) := sOf_eq i_NaN x
theorem R_NaN {C : Ctx} {F : IFun} (hspec : ∀ N, maxLen + 10 < N → ∀ (x : Int), lenOK.lenOKs [.v (.int .i64 x)] → runE C N F [.v (.int .i64 x)] = some (.v (.bool false))) : Runs C F s_NaN := runs_of i_NaN fun N hN x r hl hf => by
  simp only [Option.some.injEq] at hf
  subst hf
  exact hspec N hN x hl
theorem r_isNaNc (C : Ctx) : Runs C ir158 s_NaN := R_NaN fun N hN x hl => by
  have hd : decide (x = x) = true := decide_eq_true rfl
  simp -dsimp only [runE, run_eq, ir158, hd, EVs, ↓EVd, ↓reduceIte, zA, zB, zC, zD, zE, zF, reduceBEq, reduceCtorEq, zG, zH, zI, zJ, zK, dcells, okc]
theorem r_isNaNs (C : Ctx) : Runs C ir124 s_NaN := R_NaN fun N hN x hl => by
  have hd : decide (x = x) = true := decide_eq_true rfl
  simp -dsimp only [runE, run_eq, ir124, hd, EVs, ↓EVd, ↓reduceIte, zA, zB, zC, zD, zE, zF, reduceBEq, reduceCtorEq, zG, zH, zI, zJ, zK, dcells, okc]
def x_LessI (a : Int × Int) : List D := match a with | (x, y) => [.v (.int .i64 x), .v (.int .i64 y)]
theorem i_LessI : ∀ a b, x_LessI a = x_LessI b → a = b := by
  rintro ⟨x, y⟩ ⟨x', y'⟩ h
  first | simpa [x_LessI, INJ, and_assoc, Int.ofNat_inj] using h | (simp [x_LessI, INJ, and_assoc, Int.ofNat_inj] at h; simp_all)
noncomputable def s_LessI : List D → Option D := sOf x_LessI fun a => match a with | (x, y) => some (.v (.bool (decide (x < y))))
theorem e_LessI {x : Int} {y : Int} : s_LessI [.v (.int .i64 x), .v (.int .i64 y)] = some (.v (.bool (decide (x < y)))) := sOf_eq i_LessI (x, y)
theorem R_LessI {C : Ctx} {F : IFun} (hspec : ∀ N, maxLen + 10 < N → ∀ (x : Int) (y : Int), lenOK.lenOKs [.v (.int .i64 x), .v (.int .i64 y)] → runE C N F [.v (.int .i64 x), .v (.int .i64 y)] = some (.v (.bool (decide (x < y))))) : Runs C F s_LessI := runs_of i_LessI fun N hN a r hl hf => by
  obtain ⟨x, y⟩ := a
  simp only [Option.some.injEq] at hf
  subst hf
  exact hspec N hN x y hl
theorem r_Less (C : Ctx) (hT : C.T 158 = some s_NaN) : Runs C ir123 s_LessI := R_LessI fun N hN x y hl => by
  simp -dsimp only [runE, run_eq, ir123, hT, e_NaN, EVs, ↓EVd, ↓reduceIte, zA, zB, zC, zD, zE, zF, reduceBEq, reduceCtorEq, zG, zH, zI, zJ, zK, dcells, okc]
end Go.Proofs.Dv
set_option linter.unusedVariables false
set_option linter.unusedSimpArgs false
set_option maxRecDepth 100000
namespace Go.Proofs.Dv
open Go.RowKit
open Nat renaming reduceEqDiff → zA, reduceAdd → zB, reduceSub → zC, reduceLeDiff → zD, reduceLT → zE, reduceMul → zF
open Int renaming reduceToNat → zG, reduceLE → zH, reduceLT → zI
open List renaming set_cons_zero → zJ, set_cons_succ → zK
theorem res_3 {fr : List (Nat × D)} {hp : List (Nat × Blk)} {r s t : RV} : resDs fr hp [r, s, t] = bd (resD fr hp r) fun a => bd (resD fr hp s) fun b => bd (resD fr hp t) fun c => some (.tup [a, b, c]) := by
  simp only [resDs, List.mapM_cons, List.mapM_nil, bd]
  cases resD fr hp r <;> cases resD fr hp s <;> cases resD fr hp t <;> rfl
theorem res_4 {fr : List (Nat × D)} {hp : List (Nat × Blk)} {r s t u : RV} : resDs fr hp [r, s, t, u] = bd (resD fr hp r) fun a => bd (resD fr hp s) fun b => bd (resD fr hp t) fun c => bd (resD fr hp u) fun d => some (.tup [a, b, c, d]) := by
  simp only [resDs, List.mapM_cons, List.mapM_nil, bd]
  cases resD fr hp r <;> cases resD fr hp s <;> cases resD fr hp t <;> cases resD fr hp u <;> rfl
theorem idx_at {x : Int} : ∀ (l : List Int) (n k : Nat), (∀ j y, j < k → l[j]? = some y → ¬ y = x) → l[k]? = some x → idx x l n = ((n + k : Nat) : Int)
  | [], n, k, _, h => by simp at h
  | y :: l, n, k, hn, h => by
    rw [idx]
    cases k with
    | zero =>
      simp only [List.getElem?_cons_zero, Option.some.injEq] at h
      rw [if_pos h.symm]; rfl
    | succ k =>
      have := hn 0 y (by omega) rfl
      rw [if_neg (fun e => this e.symm), idx_at l (n + 1) k (fun j z hj hz => hn (j + 1) z (by omega) (by simpa using hz)) (by simpa using h)]
      congr 1; omega
def bsH (l : List Int) (x : Int) (i j : Nat) : St := ⟨[(0, .lst false (l.map iD)), (1, .v (.int .i64 x)), (6, .v (.int .i64 l.length)), (7, .v (.int .i64 i)), (8, .v (.int .i64 j))], [], 0⟩
def bsE (l : List Int) (x : Int) (e : Nat) : St := ⟨[(15, .v (.bool false)), (14, .v (.int .i64 e)), (13, .v (.int .i64 e)), (0, .lst false (l.map iD)), (1, .v (.int .i64 x)), (6, .v (.int .i64 l.length)), (7, .v (.int .i64 e)), (8, .v (.int .i64 e))], [], 0⟩
theorem bs_loop (C : Ctx) (N : Nat) (hL : C.T 123 = some s_LessI) (l : List Int) (x : Int) (hl : l.length ≤ 1000) (hs : ∀ (a b : Nat) (y z : Int), a < b → l[a]? = some y → l[b]? = some z → y < z) : ∀ (d i j N' : Nat) (σ : St), j ≤ l.length → i ≤ j → j - i ≤ d → d < N' →
    (∀ (k : Nat) y, k < i → l[k]? = some y → y < x) → (∀ (k : Nat) y, j ≤ k → l[k]? = some y → x ≤ y) → trim [0, 1, 6, 7, 8] 0 σ = some (bsH l x i j) →
    ∃ e : Nat, e ≤ l.length ∧ (∀ (k : Nat) y, k < e → l[k]? = some y → y < x) ∧ (∀ (k : Nat) y, e ≤ k → l[k]? = some y → x ≤ y) ∧ iter (ev C N lp86x0) (trim [0, 1, 6, 7, 8] 0) N' σ = some (.ex 0, bsE l x e) := by
  intro d
  induction d with
  | zero =>
    intro i j N' σ hj hij hd hN h1 h2 h0
    obtain ⟨N', rfl⟩ : ∃ k, N' = k + 1 := ⟨N' - 1, by omega⟩
    obtain rfl : i = j := by omega
    refine ⟨i, hj, h1, h2, ?_⟩
    simp only [iter, h0, Option.bind_some]
    have : ev C N lp86x0 (bsH l x i i) = some (.ex 0, bsE l x i) := by simp -dsimp only [lp86x0, bsH, bsE, EVs, ↓EVd, ↓reduceIte, zA, zB, zC, zD, zE, zF, reduceBEq, reduceCtorEq, zG, zH, zI, zJ, zK, dcells, okc]
    rw [this]
  | succ d ih =>
    intro i j N' σ hj hij hd hN h1 h2 h0
    obtain ⟨N', rfl⟩ : ∃ k, N' = k + 1 := ⟨N' - 1, by omega⟩
    by_cases he : i = j
    · subst he
      refine ⟨i, hj, h1, h2, ?_⟩
      simp only [iter, h0, Option.bind_some]
      have : ev C N lp86x0 (bsH l x i i) = some (.ex 0, bsE l x i) := by simp -dsimp only [lp86x0, bsH, bsE, EVs, ↓EVd, ↓reduceIte, zA, zB, zC, zD, zE, zF, reduceBEq, reduceCtorEq, zG, zH, zI, zJ, zK, dcells, okc]
      rw [this]
    · have hlt : i < j := by omega
      have hh : (i + j) / 2 < l.length := by omega
      obtain ⟨y, hy⟩ : ∃ y, l[(i + j) / 2]? = some y := ⟨_, List.getElem?_eq_getElem hh⟩
      have d1 : decide ((i : Int) < (j : Int)) = true := decide_eq_true (by omega)
      have w1 : IntKind.i64.wrap ((i : Int) + (j : Int)) = ((i + j : Nat) : Int) := wr _ (by omega) (by omega)
      have w2 : IntKind.u64.wrap ((i + j : Nat) : Int) = ((i + j : Nat) : Int) := wu _ (by omega) (by omega)
      have w3 : ((i + j : Nat) : Int).fdiv (2 ^ (min 1 IntKind.u64.bits)) = (((i + j) / 2 : Nat) : Int) := by
        show ((i + j : Nat) : Int).fdiv 2 = _
        rw [Int.fdiv_eq_ediv_of_nonneg _ (by omega)]; rfl
      have w4 : IntKind.i64.wrap (((i + j) / 2 : Nat) : Int) = (((i + j) / 2 : Nat) : Int) := wr _ (by omega) (by omega)
      have w5 : IntKind.i64.wrap ((((i + j) / 2 : Nat) : Int) + 1) = (((i + j) / 2 + 1 : Nat) : Int) := wr _ (by omega) (by omega)
      have d2 : decide (0 ≤ (((i + j) / 2 : Nat) : Int)) = true := decide_eq_true (by omega)
      have eL := @e_LessI y x
      generalize hgen : (i + j) / 2 = h at *
      have hit : ∀ (i' j' : Nat), stepE (trim [0, 1, 6, 7, 8] 0) (ev C N lp86x0 (bsH l x i j)) = some (bsH l x i' j') → j' ≤ l.length → i' ≤ j' → j' - i' ≤ d →
          (∀ (k : Nat) y, k < i' → l[k]? = some y → y < x) → (∀ (k : Nat) y, j' ≤ k → l[k]? = some y → x ≤ y) →
          ∃ e : Nat, e ≤ l.length ∧ (∀ (k : Nat) y, k < e → l[k]? = some y → y < x) ∧ (∀ (k : Nat) y, e ≤ k → l[k]? = some y → x ≤ y) ∧ iter (ev C N lp86x0) (trim [0, 1, 6, 7, 8] 0) (N' + 1) σ = some (.ex 0, bsE l x e) := by
        intro i' j' hst g1 g2 g3 g4 g5
        cases hf : ev C N lp86x0 (bsH l x i j) with
        | none => rw [hf] at hst; simp [stepE] at hst
        | some r =>
          obtain ⟨ex, σ'⟩ := r
          rw [hf] at hst
          cases ex with
          | nm =>
            obtain ⟨e, e1, e2, e3, e4⟩ := ih i' j' N' σ' g1 g2 g3 (by omega) g4 g5 (by simpa [stepE] using hst)
            refine ⟨e, e1, e2, e3, ?_⟩
            rw [← e4]
            simp only [iter, h0, Option.bind_some, hf]
          | ex i => simp [stepE] at hst
          | rt => simp [stepE] at hst
      cases c1 : decide (y < x)
      · have c1' : ¬ y < x := by simpa using c1
        refine hit i h ?_ (by omega) (by omega) (by omega) h1 fun k z hk hz => ?_
        · simp -dsimp only [lp86x0, bsH, d1, w1, w2, w3, w4, d2, hy, iD, hL, eL, c1, EVs, ↓EVd, ↓reduceIte, zA, zB, zC, zD, zE, zF, reduceBEq, reduceCtorEq, zG, zH, zI, zJ, zK, dcells, okc]
        · rcases Nat.eq_or_lt_of_le hk with e | e
          · subst e; rw [hy] at hz; simp only [Option.some.injEq] at hz; omega
          · have := hs _ _ _ _ e hy hz; omega
      · have c1' : y < x := by simpa using c1
        refine hit (h + 1) j ?_ (by omega) (by omega) (by omega) (fun k z hk hz => ?_) h2
        · simp -dsimp only [lp86x0, bsH, d1, w1, w2, w3, w4, w5, d2, hy, iD, hL, eL, c1, EVs, ↓EVd, ↓reduceIte, zA, zB, zC, zD, zE, zF, reduceBEq, reduceCtorEq, zG, zH, zI, zJ, zK, dcells, okc]
        · rcases Nat.eq_or_lt_of_le (show k ≤ h by omega) with e | e
          · subst e; rw [hy] at hz; simp only [Option.some.injEq] at hz; omega
          · have := hs _ _ _ _ e hz hy; omega
theorem bs_loopJ (C : Ctx) (N : Nat) (hL : C.T 123 = some s_LessI) (l : List Int) (x : Int) (hl : l.length ≤ 1000) (hs : ∀ (a b : Nat) (y z : Int), a < b → l[a]? = some y → l[b]? = some z → y < z) (hN : 1010 < N) {σ : St} {J : Option (Ex × St)}
    (hJ : iter (ev C N lp86x0) (trim [0, 1, 6, 7, 8] 0) N σ = J) (h0 : trim [0, 1, 6, 7, 8] 0 σ = some (bsH l x 0 l.length)) :
    ∃ e : Nat, (∀ (k : Nat) y, k < e → l[k]? = some y → y < x) ∧ (∀ (k : Nat) y, e ≤ k → l[k]? = some y → x ≤ y) ∧ J = some (.ex 0, bsE l x e) := by
  obtain ⟨e, _, e2, e3, e4⟩ := bs_loop C N hL l x hl hs l.length 0 l.length N σ (Nat.le_refl _) (Nat.zero_le _) (by omega) (by omega) (fun k y hk _ => by omega) (fun k y hk hy => by have := (List.getElem?_eq_some_iff.1 hy).1; omega) h0
  exact ⟨e, e2, e3, hJ.symm.trans e4⟩
def x_BS (a : (List Int) × Int) : List D := match a with | (l, x) => [.lst false (l.map iD), .v (.int .i64 x)]
theorem i_BS : ∀ a b, x_BS a = x_BS b → a = b := by
  rintro ⟨l, x⟩ ⟨l', x'⟩ h
  first | simpa [x_BS, INJ, and_assoc, Int.ofNat_inj] using h | (simp [x_BS, INJ, and_assoc, Int.ofNat_inj] at h; simp_all)
open Classical in
noncomputable def s_BS : List D → Option D := sOf x_BS fun a => match a with | (l, x) => if (l.Pairwise (fun a b => a < b) ∧ x ∈ l ∧ l.length ≤ 1000) then some (.tup [.v (.int .i64 (idx x l 0)), .v (.bool true)]) else none
theorem e_BS {l : List Int} {x : Int} (hc : (l.Pairwise (fun a b => a < b) ∧ x ∈ l ∧ l.length ≤ 1000)) : s_BS [.lst false (l.map iD), .v (.int .i64 x)] = some (.tup [.v (.int .i64 (idx x l 0)), .v (.bool true)]) := (sOf_eq i_BS (l, x)).trans (if_pos hc)
theorem R_BS {C : Ctx} {F : IFun} (hspec : ∀ N, maxLen + 10 < N → ∀ (l : List Int) (x : Int), lenOK.lenOKs [.lst false (l.map iD), .v (.int .i64 x)] → (l.Pairwise (fun a b => a < b) ∧ x ∈ l ∧ l.length ≤ 1000) → runE C N F [.lst false (l.map iD), .v (.int .i64 x)] = some (.tup [.v (.int .i64 (idx x l 0)), .v (.bool true)])) : Runs C F (s_BS) := runs_of i_BS fun N hN a r hl hf => by
  obtain ⟨l, x⟩ := a
  simp only [Option.ite_none_right_eq_some, Option.some.injEq] at hf
  obtain ⟨hc, rfl⟩ := hf
  exact hspec N hN l x hl hc
theorem r_BinarySearch (C : Ctx) (hL : C.T 123 = some s_LessI) (hn : C.T 124 = some s_NaN) : Runs C ir86 s_BS := R_BS fun N hN l x hl hc => by
  obtain ⟨c1, c2, c3⟩ := hc
  have hml := maxLen_ge
  have hs : ∀ (a b : Nat) (y z : Int), a < b → l[a]? = some y → l[b]? = some z → y < z := by
    intro a b y z hab ha hb
    obtain ⟨ha1, rfl⟩ := List.getElem?_eq_some_iff.1 ha
    obtain ⟨hb1, rfl⟩ := List.getElem?_eq_some_iff.1 hb
    exact List.pairwise_iff_getElem.1 c1 a b ha1 hb1 hab
  simp -dsimp only [runE, run_eq, ir86, EVs, ↓EVd, ↓reduceIte, zA, zB, zC, zD, zE, zF, reduceBEq, reduceCtorEq, zG, zH, zI, zJ, zK, dcells, okc]
  generalize hI : iter _ _ _ _ = I
  obtain ⟨e, e2, e3, rfl⟩ := bs_loopJ C N hL l x c3 hs (by omega) hI (by simp -dsimp only [bsH, EVs, ↓EVd, ↓reduceIte, zA, zB, zC, zD, zE, zF, reduceBEq, reduceCtorEq, zG, zH, zI, zJ, zK, dcells, okc])
  obtain ⟨p, hp⟩ := List.mem_iff_getElem?.1 c2
  have hpl := (List.getElem?_eq_some_iff.1 hp).1
  have hep : e = p := by
    rcases Nat.lt_trichotomy e p with h | h | h
    · obtain ⟨z, hz⟩ : ∃ z, l[e]? = some z := ⟨_, List.getElem?_eq_getElem (by omega)⟩
      have h1 := e3 e z (Nat.le_refl _) hz
      have h2 := hs e p z x h hz hp
      omega
    · exact h
    · have := e2 p x h hp; omega
  subst hep
  have hi : idx x l 0 = (e : Int) := by
    rw [idx_at l 0 e (fun j y hj hy => by have := e2 j y hj hy; omega) hp, Nat.zero_add]
  have d1 : decide ((e : Int) < (l.length : Int)) = true := decide_eq_true (by omega)
  have d2 : decide (0 ≤ (e : Int)) = true := decide_eq_true (by omega)
  have d3 : decide (x = x) = true := decide_eq_true rfl
  rw [hi]
  simp -dsimp only [bsE, d1, d2, hp, iD, d3, EVs, ↓EVd, ↓reduceIte, zA, zB, zC, zD, zE, zF, reduceBEq, reduceCtorEq, zG, zH, zI, zJ, zK, dcells, okc]
def topOf (r : Rg) (reg : Int) : Int := if r.of_ = -1 then reg else r.of_
def RegZ (m : Mc) : Prop := m.regs.length ≤ 1000 ∧ ∀ (i : Nat) (r : Rg), m.regs[i]? = some r → (1 ≤ r.width ∧ r.width ≤ 64 ∧ 0 ≤ r.low ∧ r.low + r.width ≤ 64) ∧ (r.of_ = -1 ∨ (0 ≤ r.of_ ∧ ∃ p, m.regs[r.of_.toNat]? = some p ∧ p.of_ = -1))
theorem top_mem {m : Mc} (hz : RegZ m) {reg : Int} (h0 : decide (0 ≤ reg) = true) {r : Rg} (hr : m.regs[reg.toNat]? = some r) : topOf r reg ∈ topsL m := by
  have h0' : 0 ≤ reg := by simpa using h0
  rw [topsL, tops_mem]
  unfold topOf
  by_cases h : r.of_ = -1
  · rw [if_pos h]; exact ⟨reg.toNat, r, hr, h, by omega⟩
  · rw [if_neg h]
    rcases (hz.2 _ _ hr).2 with h1 | ⟨h1, p, h2, h3⟩
    · exact (h h1).elim
    · exact ⟨r.of_.toNat, p, h2, h3, by omega⟩
def pieceP (m : Mc) (reg : Int) (r : Rg) : Int := idx (topOf r reg) (topsL m) 0
def partD (m : Mc) (reg c : Int) : D := bif !decide (c = 0) then .tup [.v (.int .i64 0), .v (.int .i64 0), .v (.int .i64 0), .v (.int .i64 c)] else
  bif !inB reg 0 (IntKind.i64.wrap ((m.regs.length : Int) - 1)) then .tup [.v (.int .i64 0), .v (.int .i64 0), .v (.int .i64 0), .v (.int .i64 2)] else
  match m.regs[reg.toNat]? with
  | some r => .tup [.v (.int .i64 (pieceP m reg r)), .v (.int .i64 r.low), .v (.int .i64 r.width), .v (.int .i64 0)]
  | none => .junk
def x_PartF (a : Mc × Int) : List D := match a with | (m, reg) => [.agg m.d, .v (.int .i64 reg)]
theorem i_PartF : ∀ a b, x_PartF a = x_PartF b → a = b := by
  rintro ⟨m, reg⟩ ⟨m', reg'⟩ h
  first | simpa [x_PartF, INJ, and_assoc, Int.ofNat_inj] using h | (simp [x_PartF, INJ, and_assoc, Int.ofNat_inj] at h; simp_all)
open Classical in
noncomputable def s_PartF : List D → Option D := sOf x_PartF fun a => match a with | (m, reg) => if (TOKs m ∧ (chkM m = 0 → RegZ m)) then some (partD m reg (chkM m)) else none
theorem e_PartF {m : Mc} {reg : Int} (hc : (TOKs m ∧ (chkM m = 0 → RegZ m))) : s_PartF [.agg m.d, .v (.int .i64 reg)] = some (partD m reg (chkM m)) := (sOf_eq i_PartF (m, reg)).trans (if_pos hc)
theorem R_PartF {C : Ctx} {F : IFun} (hspec : ∀ N, maxLen + 10 < N → ∀ (m : Mc) (reg : Int), lenOK.lenOKs [.agg m.d, .v (.int .i64 reg)] → (TOKs m ∧ (chkM m = 0 → RegZ m)) → runE C N F [.agg m.d, .v (.int .i64 reg)] = some (partD m reg (chkM m))) : Runs C F (s_PartF) := runs_of i_PartF fun N hN a r hl hf => by
  obtain ⟨m, reg⟩ := a
  simp only [Option.ite_none_right_eq_some, Option.some.injEq] at hf
  obtain ⟨hc, rfl⟩ := hf
  exact hspec N hN m reg hl hc
theorem r_Part (C : Ctx) (hM : C.T 14 = some s_ChkM) (hW : C.T 58 = some s_in) (hT : C.T 84 = some s_TopsF) (hB : C.T 86 = some s_BS) : Runs C ir24 s_PartF := R_PartF fun N hN m reg hl hc => by
  obtain ⟨t1, t2⟩ := hc
  have eM := @e_ChkM m t1
  simp only [Mc.d] at eM
  have eW := @e_in reg 0 (IntKind.i64.wrap ((m.regs.length : Int) - 1))
  unfold partD
  cases h0 : decide (chkM m = 0)
  · simp -dsimp only [runE, run_eq, res_4, ir24, Mc.d, hM, eM, h0, EVs, ↓EVd, ↓reduceIte, zA, zB, zC, zD, zE, zF, reduceBEq, reduceCtorEq, zG, zH, zI, zJ, zK, dcells, okc]
  have hz := t2 (by simpa using h0)
  cases h1 : inB reg 0 (IntKind.i64.wrap ((m.regs.length : Int) - 1))
  · simp -dsimp only [runE, run_eq, res_4, ir24, Mc.d, hM, eM, h0, hW, eW, h1, EVs, ↓EVd, ↓reduceIte, zA, zB, zC, zD, zE, zF, reduceBEq, reduceCtorEq, zG, zH, zI, zJ, zK, dcells, okc]
  obtain ⟨hge, r, hr⟩ := inB_get (by have := hz.1; omega) h1
  have eT := @e_TopsF m hz.1
  simp only [Mc.d] at eT
  have eB := @e_BS (topsL m) (topOf r reg) ⟨tops_sorted _ _, top_mem hz hge hr, by have := tops_len m.regs 0; have := hz.1; show (topsAux 0 m.regs).length ≤ 1000; omega⟩
  rw [hr]
  simp only [Bool.not_true, cond_false]
  unfold pieceP
  by_cases h : r.of_ = -1
  · have ht : topOf r reg = reg := by unfold topOf; rw [if_pos h]
    rw [ht] at eB ⊢
    have h' : decide (0 ≤ r.of_) = false := decide_eq_false (by omega)
    simp -dsimp only [runE, run_eq, res_4, ir24, Mc.d, Rg.d, hM, eM, h0, hW, eW, h1, hge, hr, h', hT, eT, hB, eB, EVs, ↓EVd, ↓reduceIte, zA, zB, zC, zD, zE, zF, reduceBEq, reduceCtorEq, zG, zH, zI, zJ, zK, dcells, okc]
  · have ht : topOf r reg = r.of_ := by unfold topOf; rw [if_neg h]
    rw [ht] at eB ⊢
    have h' : decide (0 ≤ r.of_) = true := decide_eq_true (by rcases (hz.2 _ _ hr).2 with h1 | ⟨h1, _⟩; exact (h h1).elim; exact h1)
    simp -dsimp only [runE, run_eq, res_4, ir24, Mc.d, Rg.d, hM, eM, h0, hW, eW, h1, hge, hr, h', hT, eT, hB, eB, EVs, ↓EVd, ↓reduceIte, zA, zB, zC, zD, zE, zF, reduceBEq, reduceCtorEq, zG, zH, zI, zJ, zK, dcells, okc]
def pieceD (m : Mc) (reg : Int) : D := match m.regs[reg.toNat]? with
  | some r => .tup [.v (.int .i64 (pieceP m reg r)), .v (.int .i64 r.low), .v (.int .i64 r.width)]
  | none => .junk
def x_PieceF (a : Mc × Int) : List D := match a with | (m, reg) => [.agg m.d, .v (.int .i64 reg)]
theorem i_PieceF : ∀ a b, x_PieceF a = x_PieceF b → a = b := by
  rintro ⟨m, reg⟩ ⟨m', reg'⟩ h
  first | simpa [x_PieceF, INJ, and_assoc, Int.ofNat_inj] using h | (simp [x_PieceF, INJ, and_assoc, Int.ofNat_inj] at h; simp_all)
open Classical in
noncomputable def s_PieceF : List D → Option D := sOf x_PieceF fun a => match a with | (m, reg) => if (RegZ m ∧ inB reg 0 (IntKind.i64.wrap ((m.regs.length : Int) - 1)) = true) then some (pieceD m reg) else none
theorem e_PieceF {m : Mc} {reg : Int} (hc : (RegZ m ∧ inB reg 0 (IntKind.i64.wrap ((m.regs.length : Int) - 1)) = true)) : s_PieceF [.agg m.d, .v (.int .i64 reg)] = some (pieceD m reg) := (sOf_eq i_PieceF (m, reg)).trans (if_pos hc)
theorem R_PieceF {C : Ctx} {F : IFun} (hspec : ∀ N, maxLen + 10 < N → ∀ (m : Mc) (reg : Int), lenOK.lenOKs [.agg m.d, .v (.int .i64 reg)] → (RegZ m ∧ inB reg 0 (IntKind.i64.wrap ((m.regs.length : Int) - 1)) = true) → runE C N F [.agg m.d, .v (.int .i64 reg)] = some (pieceD m reg)) : Runs C F (s_PieceF) := runs_of i_PieceF fun N hN a r hl hf => by
  obtain ⟨m, reg⟩ := a
  simp only [Option.ite_none_right_eq_some, Option.some.injEq] at hf
  obtain ⟨hc, rfl⟩ := hf
  exact hspec N hN m reg hl hc
theorem r_Piece (C : Ctx) (hT : C.T 85 = some s_TopsF) : Runs C ir87 s_PieceF := R_PieceF fun N hN m reg hl hc => by
  obtain ⟨hz, h1⟩ := hc
  obtain ⟨hge, r, hr⟩ := inB_get (by have := hz.1; omega) h1
  have eT := @e_TopsF m hz.1
  simp only [Mc.d] at eT
  have hml := maxLen_ge
  have htl : (topsL m).length ≤ 1000 := by have := tops_len m.regs 0; have := hz.1; show (topsAux 0 m.regs).length ≤ 1000; omega
  have hm := top_mem hz hge hr
  unfold pieceD
  rw [hr]
  have hloop : ∀ (t : Int), t ∈ topsL m → ∀ {β : Type} (K : Option (Ex × St) → Option β) (σ : St) (v : β), trim [7, 8, 9, 10] 2 σ = some ⟨[(7, .ptr 1 0), (8, .v (.int .i64 t)), (9, .lst false ((topsL m).map iD)), (10, .v (.int .i64 ((0 : Nat) : Int)))], [(1, .box r.d), (0, .box m.d)], 2⟩ →
      (∀ j : Nat, idx t (topsL m) 0 = (j : Int) → ∀ x, (topsL m)[j]? = some x → outK K (ev C N lp87x0 ⟨[(7, .ptr 1 0), (8, .v (.int .i64 t)), (9, .lst false ((topsL m).map iD)), (10, .v (.int .i64 j))], [(1, .box r.d), (0, .box m.d)], 2⟩) = gb (!decide (t = x)) (fun _ => none) fun _ => some v) →
      ∀ I, iter (ev C N lp87x0) (trim [7, 8, 9, 10] 2) N σ = I → K I = some v := by
    intro t htm β K σ v h0 hout
    refine iter_test (topsL m) (fun j _ => ⟨[(7, .ptr 1 0), (8, .v (.int .i64 t)), (9, .lst false ((topsL m).map iD)), (10, .v (.int .i64 j))], [(1, .box r.d), (0, .box m.d)], 2⟩) (fun _ y => !decide (t = y)) (fun i _ => i + 1) (fun i _ => (i : Int)) (fun i a => a = i) 0 (by omega) hN h0 rfl ?_ ?_ ?_
    · rintro j _ x hj hjw hx rfl
      refine ⟨?_, fun _ => rfl⟩
      have hc := @deq_comm x t
      simp -dsimp only [lp87x0, hj, hjw, hx, iD, Mc.d, Rg.d, hc, EVs, ↓EVd, ↓reduceIte, zA, zB, zC, zD, zE, zF, reduceBEq, reduceCtorEq, zG, zH, zI, zJ, zK, dcells, okc]
      repeat' ((first | with_reducible refine gb_split (fun _ => ?_) (fun _ => ?_) | with_reducible refine gb_splitr (fun _ => ?_) (fun _ => ?_)) <;> (try simp -dsimp only [lp87x0, hj, hjw, hx, iD, Mc.d, Rg.d, hc, EVs, ↓EVd, ↓reduceIte, zA, zB, zC, zD, zE, zF, reduceBEq, reduceCtorEq, zG, zH, zI, zJ, zK, dcells, okc, *]))
    · rintro j _ x hj hx rfl hs
      exact hout j (by rw [idx_scan, show ((0 : Nat) : Int) = 0 from rfl, hs]) x hx
    · rintro _ rfl hs
      have : idx t (topsL m) 0 = -1 := by rw [idx_scan, show ((0 : Nat) : Int) = 0 from rfl, hs]
      have h2 := idx_nonneg t (topsL m) 0
      rw [this] at h2
      have h3 : has t (topsL m) = true := by
        unfold has; rw [List.any_eq_true]; exact ⟨t, htm, by simp⟩
      rw [h3] at h2
      simp at h2
  unfold pieceP
  by_cases h : r.of_ = -1
  · have ht : topOf r reg = reg := by unfold topOf; rw [if_pos h]
    rw [ht] at hm
    simp only [ht]
    have h' : decide (r.of_ = -1) = true := decide_eq_true h
    simp -dsimp only [runE, run_eq, res_3, ir87, Mc.d, Rg.d, hge, hr, h', hT, eT, EVs, ↓EVd, ↓reduceIte, zA, zB, zC, zD, zE, zF, reduceBEq, reduceCtorEq, zG, zH, zI, zJ, zK, dcells, okc]
    generalize hI : iter _ _ _ _ = I
    revert I
    refine hloop reg hm _ _ _ ?_ ?_
    · simp -dsimp only [Mc.d, Rg.d, EVs, ↓EVd, ↓reduceIte, zA, zB, zC, zD, zE, zF, reduceBEq, reduceCtorEq, zG, zH, zI, zJ, zK, dcells, okc]
    · intro j hj x hx
      have hc := @deq_comm x reg
      have hjl : decide ((j : Int) < ((topsL m).length : Int)) = true := decide_eq_true (by have := (List.getElem?_eq_some_iff.1 hx).1; omega)
      simp -dsimp only [lp87x0, hjl, hx, iD, Mc.d, Rg.d, hc, hj, res_3, EVs, ↓EVd, ↓reduceIte, zA, zB, zC, zD, zE, zF, reduceBEq, reduceCtorEq, zG, zH, zI, zJ, zK, dcells, okc]
      repeat' ((first | with_reducible refine gb_split (fun _ => ?_) (fun _ => ?_) | with_reducible refine gb_splitr (fun _ => ?_) (fun _ => ?_)) <;> (try simp -dsimp only [lp87x0, hjl, hx, iD, Mc.d, Rg.d, hc, hj, res_3, EVs, ↓EVd, ↓reduceIte, zA, zB, zC, zD, zE, zF, reduceBEq, reduceCtorEq, zG, zH, zI, zJ, zK, dcells, okc, *]))
  · have ht : topOf r reg = r.of_ := by unfold topOf; rw [if_neg h]
    rw [ht] at hm
    simp only [ht]
    have h' : decide (r.of_ = -1) = false := decide_eq_false h
    simp -dsimp only [runE, run_eq, res_3, ir87, Mc.d, Rg.d, hge, hr, h', hT, eT, EVs, ↓EVd, ↓reduceIte, zA, zB, zC, zD, zE, zF, reduceBEq, reduceCtorEq, zG, zH, zI, zJ, zK, dcells, okc]
    generalize hI : iter _ _ _ _ = I
    revert I
    refine hloop r.of_ hm _ _ _ ?_ ?_
    · simp -dsimp only [Mc.d, Rg.d, EVs, ↓EVd, ↓reduceIte, zA, zB, zC, zD, zE, zF, reduceBEq, reduceCtorEq, zG, zH, zI, zJ, zK, dcells, okc]
    · intro j hj x hx
      have hc := @deq_comm x r.of_
      have hjl : decide ((j : Int) < ((topsL m).length : Int)) = true := decide_eq_true (by have := (List.getElem?_eq_some_iff.1 hx).1; omega)
      simp -dsimp only [lp87x0, hjl, hx, iD, Mc.d, Rg.d, hc, hj, res_3, EVs, ↓EVd, ↓reduceIte, zA, zB, zC, zD, zE, zF, reduceBEq, reduceCtorEq, zG, zH, zI, zJ, zK, dcells, okc]
      repeat' ((first | with_reducible refine gb_split (fun _ => ?_) (fun _ => ?_) | with_reducible refine gb_splitr (fun _ => ?_) (fun _ => ?_)) <;> (try simp -dsimp only [lp87x0, hjl, hx, iD, Mc.d, Rg.d, hc, hj, res_3, EVs, ↓EVd, ↓reduceIte, zA, zB, zC, zD, zE, zF, reduceBEq, reduceCtorEq, zG, zH, zI, zJ, zK, dcells, okc, *]))
end Go.Proofs.Dv
set_option linter.unusedVariables false
set_option linter.unusedSimpArgs false
set_option maxRecDepth 100000
namespace Go.Proofs.Dv
open Go.RowKit
open Nat renaming reduceEqDiff → zA, reduceAdd → zB, reduceSub → zC, reduceLeDiff → zD, reduceLT → zE, reduceMul → zF
open Int renaming reduceToNat → zG, reduceLE → zH, reduceLT → zI
open List renaming set_cons_zero → zJ, set_cons_succ → zK
theorem chk_regsR {m : Mc} (h : chkR m = 0) : regsR m = true := by
  unfold chkR at h
  cases hs : smallOK m with
  | false => rw [hs] at h; simp at h
  | true =>
    rw [hs] at h
    simp only [Bool.not_true, cond_false] at h
    cases hh : headR m && allI (insAt m) 0 m.instrs with
    | false => rw [hh] at h; simp at h
    | true =>
      simp only [headR, Bool.and_eq_true] at hh
      exact hh.1.2.2.2.1
theorem chk_regz {m : Mc} (h : chkR m = 0) : RegZ m := by
  have h64 := chkR_regs h
  have hr := chk_regsR h
  simp only [regsR, Bool.and_eq_true] at hr
  refine ⟨by omega, fun i r hi => ?_⟩
  have h1 := allI_get _ _ hr.1 i r hi
  simp only [Nat.zero_add, rgAt, Bool.and_eq_true] at h1
  obtain ⟨⟨_, hw⟩, _, hrest⟩ := h1
  have hw := inB_iff.1 hw
  unfold regRest at hrest
  cases g : decide (r.of_ = -1) with
  | true =>
    rw [g, cond_true] at hrest
    have hlow : r.low = 0 := by simpa using hrest
    exact ⟨by omega, .inl (by simpa using g)⟩
  | false =>
    rw [g, cond_false] at hrest
    cases g2 : inB r.of_ 0 (IntKind.i64.wrap ((m.regs.length : Int) - 1)) with
    | false => rw [g2] at hrest; simp at hrest
    | true =>
      obtain ⟨hge, p, hp⟩ := inB_get (by omega) g2
      rw [g2, hp] at hrest
      simp only [Bool.not_true, cond_false, Bool.and_eq_true, decide_eq_true_eq] at hrest
      obtain ⟨k1, k2, k3, k4⟩ := hrest
      have k3 := inB_iff.1 k3
      have k4 := inB_iff.1 k4
      rw [wr _ (by omega) (by omega)] at k4
      exact ⟨by omega, .inr ⟨by simpa using hge, p, hp, k1⟩⟩
end Go.Proofs.Dv
set_option linter.unusedVariables false
set_option linter.defProp false
set_option linter.unusedSimpArgs false
namespace Go.Proofs.Dv
open Go.RowKit
def nnD (ne : Bool) : D → Option D
  | .lst _ es => gb (decide (0 < es.length)) (fun _ => some (.v (.bool ne))) fun _ => none
  | _ => none
def boxU : Option Blk → Option (List D)
  | some (.box cs) => some cs
  | _ => none
def lenmD (hp : List (Nat × Blk)) : D → Option D
  | .lst _ es => some (.v (.int .i64 es.length))
  | .own id n => bd (boxU (lkh hp id)) fun _ => some (.v (.int .i64 n))
  | _ => none
def iamD (sz : Nat) (hp : List (Nat × Blk)) : D → D → Option D
  | .own id n, .v (.int _ i) => bd (boxU (lkh hp id)) fun _ => gb (decide (0 ≤ i) && decide (i < (n : Int))) (fun _ => some (.ptr id (i.toNat * sz))) fun _ => none
  | _, _ => none
def apmD (sz bytes : Nat) (news : List (List D)) (K : Unit → Option St) [Dm K] : D → Option St
  | .lst true [] => gb ((news.all fun e => e.length == sz) && decide (0 < sz) && !news.isEmpty && decide (news.length * bytes ≤ 140737488355328)) K fun _ => none
  | _ => none
def scD : D → Option D
  | .v x => some (.v x)
  | _ => none
def pkT (hp : List (Nat × Blk)) (args : List D) : Option (List D → Option D) → Option D
  | some s => bd (expoP.expos hp args) fun ds => bd (s ds) scD
  | none => none
def pkC (C : Ctx) (hp : List (Nat × Blk)) (args : List D) : D → Option D
  | .fn f caps => pkT hp (args ++ caps) (C.T f)
  | _ => none
def boxE (n : Nat) : Option Blk → Option (List (List D))
  | some (.row _ els) => gb (decide (els.length = n)) (fun _ => some els) fun _ => none
  | some (.box cells) => gb (decide (cells.length = n) && cl.cls cells) (fun _ => some (cells.map fun c => [c])) fun _ => none
  | _ => none
theorem nn_lst {ne e : Bool} {es : List (List D)} : nnD ne (.lst e es) = gb (decide (0 < es.length)) (fun _ => some (.v (.bool ne))) fun _ => none := nr rfl
theorem bu_box {cs : List D} : boxU (some (.box cs)) = some cs := nr rfl
theorem lm_lst {hp : List (Nat × Blk)} {e : Bool} {es : List (List D)} : lenmD hp (.lst e es) = some (.v (.int .i64 es.length)) := nr rfl
theorem lm_own {hp : List (Nat × Blk)} {id n : Nat} : lenmD hp (.own id n) = bd (boxU (lkh hp id)) fun _ => some (.v (.int .i64 n)) := nr rfl
theorem im_own {sz : Nat} {hp : List (Nat × Blk)} {id n : Nat} {k : IntKind} {i : Int} : iamD sz hp (.own id n) (.v (.int k i)) = bd (boxU (lkh hp id)) fun _ => gb (decide (0 ≤ i) && decide (i < (n : Int))) (fun _ => some (.ptr id (i.toNat * sz))) fun _ => none := nr rfl
theorem am_lst {sz bytes : Nat} {news : List (List D)} {K : Unit → Option St} {_ : Dm K} : apmD sz bytes news K (.lst true []) = gb ((news.all fun e => e.length == sz) && decide (0 < sz) && !news.isEmpty && decide (news.length * bytes ≤ 140737488355328)) K fun _ => none := nr rfl
theorem sc_v {x : Value} : scD (.v x) = some (.v x) := nr rfl
theorem pk_s {hp : List (Nat × Blk)} {args : List D} {s : List D → Option D} : pkT hp args (some s) = bd (expoP.expos hp args) fun ds => bd (s ds) scD := nr rfl
theorem pk_fn {C : Ctx} {hp : List (Nat × Blk)} {args caps : List D} {f : Nat} : pkC C hp args (.fn f caps) = pkT hp (args ++ caps) (C.T f) := nr rfl
theorem be_box {n : Nat} {cells : List D} : boxE n (some (.box cells)) = gb (decide (cells.length = n) && cl.cls cells) (fun _ => some (cells.map fun c => [c])) fun _ => none := nr rfl
theorem be_row {n z : Nat} {els : List (List D)} : boxE n (some (.row z els)) = gb (decide (els.length = n)) (fun _ => some els) fun _ => none := nr rfl
section
variable {hp : List (Nat × Blk)}
theorem xP_v {x : Value} : expoP hp (.v x) = some (.v x) := by simp only [expoP]
theorem xP_lst {b : Bool} {es : List (List D)} : expoP hp (.lst b es) = some (.lst b es) := by simp only [expoP]
theorem xP_rp {cs : List D} : expoP hp (.rp cs) = some (.rp cs) := by simp only [expoP]
theorem xP_agg {ds : List D} : expoP hp (.agg ds) = bd (expoP.expos hp ds) fun e => some (.agg e) := by
  simp only [expoP, bd]; cases expoP.expos hp ds <;> rfl
theorem xP_tup {ds : List D} : expoP hp (.tup ds) = bd (expoP.expos hp ds) fun e => some (.tup e) := by
  simp only [expoP, bd]; cases expoP.expos hp ds <;> rfl
theorem xP_own {id n : Nat} : expoP hp (.own id n) = bd (boxE n (lkh hp id)) fun els => some (.lst false els) := by
  simp only [expoP, bd]
  rcases lkh hp id with _ | ⟨cs | ⟨z, els⟩ | es⟩ <;> simp [boxE, gb]
  · by_cases h : cs.length = n <;> by_cases h2 : cl.cls cs = true <;> simp [h, h2]
  · by_cases h : els.length = n <;> simp [h]
theorem xPs_nil : expoP.expos hp [] = some [] := by simp only [expoP.expos]
theorem xPs_cons {d : D} {ds : List D} : expoP.expos hp (d :: ds) = bd (expoP hp d) fun e => bd (expoP.expos hp ds) fun es => some (e :: es) := by
  simp only [expoP.expos, bd]
  cases expoP hp d <;> simp
  cases expoP.expos hp ds <;> rfl
end
section
variable {C : Ctx} {fr : List (Nat × D)} {hp : List (Nat × Blk)} {nx : Nat} {d : Option Nat} {os : List Iop} {l : Bool} {x y : Opd}
theorem o_nnil {ne : Bool} : evOps C (⟨d, .nnil ne x, none, l⟩ :: os) ⟨fr, hp, nx⟩ = bd (nnD ne (evO C fr x)) fun v => evOps C os ⟨put d v fr, hp, nx⟩ := by
  rw [o_q _ fun _ => rfl]; congr 1
  simp only [evQ]
  generalize evO C fr x = g
  cases g with
  | lst e es => cases es <;> simp [nnD, gb]
  | _ => rfl
theorem o_lenm : evOps C (⟨d, .lenm x, none, l⟩ :: os) ⟨fr, hp, nx⟩ = bd (lenmD (hpl l hp) (evO C fr x)) fun v => evOps C os ⟨put d v fr, hp, nx⟩ := by
  rw [o_q _ fun _ => rfl]; congr 1
  simp only [evQ]
  generalize evO C fr x = g
  cases g with
  | own id n =>
    simp only [lenmD]
    generalize lkh (hpl l hp) id = q
    rcases q with _ | ⟨cs | ⟨z, els⟩ | es⟩ <;> rfl
  | _ => rfl
theorem o_iam {sz : Nat} : evOps C (⟨d, .iam sz x y, none, l⟩ :: os) ⟨fr, hp, nx⟩ = bd (iamD sz (hpl l hp) (evO C fr x) (evO C fr y)) fun v => evOps C os ⟨put d v fr, hp, nx⟩ := by
  rw [o_q _ fun _ => rfl]; congr 1
  simp only [evQ]
  generalize evO C fr x = g
  generalize evO C fr y = g'
  cases g with
  | own id n =>
    cases g' with
    | v u =>
      cases u with
      | int k i =>
        simp only [iamD]
        generalize lkh (hpl l hp) id = q
        rcases q with _ | ⟨cs | ⟨z, els⟩ | es⟩
        · rfl
        · simp only [boxU, bd, gb, Option.bind_some, Bool.and_eq_true, decide_eq_true_eq]
        · rfl
        · rfl
      | _ => rfl
    | _ => rfl
  | _ => rfl
theorem o_apm {sz bytes : Nat} : evOps C (⟨d, .apm sz bytes x y, none, false⟩ :: os) ⟨fr, hp, nx⟩ = bd (elD hp (evO C fr y)) fun news =>
    apmD sz bytes news (fun _ => evOps C os ⟨put d (.own nx news.length) fr, (nx, .box news.flatten) :: hp, nx + 1⟩) (evO C fr x) := by
  rw [o_e _ fun _ => rfl]
  have e1 : newsOf hp (evO C fr y) = elD hp (evO C fr y) := by
    generalize evO C fr y = g
    cases g with
    | own id n =>
      simp only [newsOf, elD]
      generalize lkh hp id = q
      rcases q with _ | ⟨cs | ⟨z, els⟩ | es⟩ <;> rfl
    | _ => rfl
  simp only [evE, e1, bd]
  cases elD hp (evO C fr y) with
  | none => rfl
  | some news =>
    simp only [Option.bind_some]
    generalize evO C fr x = g
    cases g with
    | lst e es =>
      cases e <;> cases es <;> simp only [apmD, gb] <;> (split <;> simp)
    | _ => simp only [apmD, gb] <;> (split <;> simp)
theorem o_peek {args : List Opd} : evOps C (⟨d, .peek x args, none, l⟩ :: os) ⟨fr, hp, nx⟩ = bd (pkC C (hpl l hp) (args.map (evO C fr)) (evO C fr x)) fun v => evOps C os ⟨put d v fr, hp, nx⟩ := by
  rw [o_q _ fun _ => rfl]; congr 1
  simp only [evQ]
  generalize evO C fr x = g
  cases g with
  | fn f caps =>
    simp only [pkC]
    cases C.T f with
    | none => rfl
    | some s =>
      simp only [pkT, bd]
      cases expoP.expos (hpl l hp) (args.map (evO C fr) ++ caps) with
      | none => rfl
      | some ds =>
        simp only [Option.bind_some]
        cases s ds with
        | none => rfl
        | some r => cases r <;> simp [scal, scD]
  | _ => rfl
end
def EVm := And.intro @nn_lst (And.intro @bu_box (And.intro @lm_lst (And.intro @lm_own (And.intro @im_own (And.intro @am_lst (And.intro @sc_v (And.intro @pk_s (And.intro @pk_fn (And.intro @be_box (And.intro @be_row (And.intro @xP_v (And.intro @xP_lst (And.intro @xP_rp (And.intro @xP_agg (And.intro @xP_tup (And.intro @xP_own (And.intro @xPs_nil (And.intro @xPs_cons (And.intro @o_nnil (And.intro @o_lenm (And.intro @o_iam (And.intro @o_apm @o_peek))))))))))))))))))))))
def runP (C : Ctx) (N : Nat) (F : IFun) (ds : List D) : Option D := bd (run C N F ds [] 0) fun r => expoP r.2.1 r.1
def RunsP (C : Ctx) (F : IFun) (s : List D → Option D) : Prop := ∀ N, maxLen + 10 < N → ∀ ds r, lenOK.lenOKs ds → s ds = some r → runP C N F ds = some r
theorem runsP_of {C : Ctx} {F : IFun} {α : Type} {e : α → List D} {f : α → Option D} (hi : ∀ a b, e a = e b → a = b) (h : ∀ N, maxLen + 10 < N → ∀ a r, lenOK.lenOKs (e a) → f a = some r → runP C N F (e a) = some r) : RunsP C F (sOf e f) := by
  intro N hN ds r hl hs
  obtain ⟨a, rfl, hf⟩ := sOf_inv hi hs
  exact h N hN a r hl hf
end Go.Proofs.Dv
set_option linter.unusedVariables false
set_option linter.unusedSimpArgs false
set_option maxRecDepth 100000
namespace Go.Proofs.Dv
open Go.RowKit
open Nat renaming reduceEqDiff → zA, reduceAdd → zB, reduceSub → zC, reduceLeDiff → zD, reduceLT → zE, reduceMul → zF
open Int renaming reduceToNat → zG, reduceLE → zH, reduceLT → zI
open List renaming set_cons_zero → zJ, set_cons_succ → zK
def uV (x : Int) : D := .v (.int .u64 x)
@[simp] theorem uD_iff {l k : List Int} : l.map uD = k.map uD ↔ l = k := ⟨fun h => (List.map_inj_right (fun a b h => uD_inj a b h)).1 h, fun h => by rw [h]⟩
theorem flat_u : ∀ {l : List Int}, (l.map uD).flatten = l.map uV
  | [] => rfl
  | x :: l => by simp only [List.map_cons, List.flatten_cons, flat_u (l := l), uD, uV, List.singleton_append]
theorem uV_sing {l : List Int} : ((l.map uV).map fun c => [c]) = l.map uD := by rw [List.map_map]; rfl
theorem uV_cls : ∀ {l : List Int}, cl.cls (l.map uV) = true
  | [] => rfl
  | x :: l => by simp only [List.map_cons, cl.cls, uV_cls (l := l), uV, cl, Bool.and_self]
theorem uD_one {l : List Int} : ((l.map uD).all fun e => e.length == 1) = true := by
  rw [List.all_map, List.all_eq_true]; intro x _; rfl
theorem uV_set {l : List Int} {p : Nat} {v : Int} (h : p < l.length) : (l.map uV).take p ++ [.v (.int .u64 v)] ++ (l.map uV).drop (p + 1) = (l.set p v).map uV := by
  rw [List.set_eq_take_append_cons_drop, if_pos h]
  simp [uV]
theorem uV_get {l : List Int} {p : Nat} {v : Int} (h : l[p]? = some v) : (l.map uV)[p]? = some (.v (.int .u64 v)) := by rw [List.getElem?_map, h]; rfl
def wAt (m : Mc) (j : Nat) : Int := match (topsL m)[j]? with
  | some t => (match m.regs[t.toNat]? with | some r => r.width | none => 0)
  | none => 0
theorem top_at {m : Mc} {j : Nat} {t : Int} (h : (topsL m)[j]? = some t) : ∃ r, m.regs[t.toNat]? = some r ∧ decide (0 ≤ t) = true ∧ wAt m j = r.width := by
  have hm : t ∈ topsAux 0 m.regs := List.mem_iff_getElem?.2 ⟨j, h⟩
  obtain ⟨k, r, h1, _, h2⟩ := (tops_mem _ _).1 hm
  have h3 : m.regs[t.toNat]? = some r := by rw [h2]; simpa using h1
  refine ⟨r, h3, decide_eq_true (by omega), ?_⟩
  unfold wAt
  rw [h]
  simp only [h3]
def vlM (m : Mc) (rs : List Int) : Bool := scOK (scan (tst (fun (a : Nat) x => okI (wAt m a) x) (fun a _ => a + 1) (fun _ _ => ())) 0 rs)
def vlR (m : Mc) (rs : List Int) : Bool := scOK (scan (tst (fun (a : Nat) x => decide (x < p2 (wAt m a).toNat)) (fun a _ => a + 1) (fun _ _ => ())) 0 rs)
def errL (m : Mc) (vl : Bool) (k : Nat) (reg c : Int) : Int := bif !decide (c = 0) then c else bif !inB reg 0 (IntKind.i64.wrap ((m.regs.length : Int) - 1)) then 2 else bif !decide (((topsL m).length : Int) = (k : Int)) then 14 else bif !vl then 14 else 0
theorem errL_ok {m : Mc} {vl : Bool} {k : Nat} {reg c : Int} (h : decide (errL m vl k reg c = 0) = true) : c = 0 ∧ inB reg 0 (IntKind.i64.wrap ((m.regs.length : Int) - 1)) = true ∧ (topsL m).length = k ∧ vl = true := by
  unfold errL at h
  cases h0 : decide (c = 0) with
  | false => rw [h0] at h; simp only [Bool.not_false, cond_true] at h; rw [h0] at h; simp at h
  | true =>
    rw [h0] at h
    simp only [Bool.not_true, cond_false] at h
    cases h1 : inB reg 0 (IntKind.i64.wrap ((m.regs.length : Int) - 1)) with
    | false => rw [h1] at h; simp at h
    | true =>
      rw [h1] at h
      simp only [Bool.not_true, cond_false] at h
      cases h2 : decide (((topsL m).length : Int) = (k : Int)) with
      | false => rw [h2] at h; simp at h
      | true =>
        rw [h2] at h
        cases vl with
        | false => simp at h
        | true => exact ⟨by simpa using h0, rfl, by have := of_decide_eq_true h2; omega, rfl⟩
def locD (m : Mc) (reg e : Int) : D := bif !decide (e = 0) then .tup [.v (.int .i64 0), .v (.int .i64 0), .v (.int .i64 0), .v (.int .i64 e)] else
  match m.regs[reg.toNat]? with
  | some r => .tup [.v (.int .i64 (pieceP m reg r)), .v (.int .i64 r.low), .v (.int .i64 r.width), .v (.int .i64 0)]
  | none => .junk
def x_LocF (a : Mc × Bool × (List Int) × Int) : List D := match a with | (m, f, rs, reg) => [.agg m.d, .lst f (rs.map uD), .v (.int .i64 reg)]
theorem i_LocF : ∀ a b, x_LocF a = x_LocF b → a = b := by
  rintro ⟨m, f, rs, reg⟩ ⟨m', f', rs', reg'⟩ h
  first | simpa [x_LocF, INJ, and_assoc, Int.ofNat_inj] using h | (simp [x_LocF, INJ, and_assoc, Int.ofNat_inj] at h; simp_all)
open Classical in
noncomputable def s_LocF : List D → Option D := sOf x_LocF fun a => match a with | (m, f, rs, reg) => if (TOKs m ∧ (chkM m = 0 → RegZ m) ∧ rs.length ≤ 1000) then some (locD m reg (errL m (vlM m rs) rs.length reg (chkM m))) else none
theorem e_LocF {m : Mc} {f : Bool} {rs : List Int} {reg : Int} (hc : (TOKs m ∧ (chkM m = 0 → RegZ m) ∧ rs.length ≤ 1000)) : s_LocF [.agg m.d, .lst f (rs.map uD), .v (.int .i64 reg)] = some (locD m reg (errL m (vlM m rs) rs.length reg (chkM m))) := (sOf_eq i_LocF (m, f, rs, reg)).trans (if_pos hc)
theorem R_LocF {C : Ctx} {F : IFun} (hspec : ∀ N, maxLen + 10 < N → ∀ (m : Mc) (f : Bool) (rs : List Int) (reg : Int), lenOK.lenOKs [.agg m.d, .lst f (rs.map uD), .v (.int .i64 reg)] → (TOKs m ∧ (chkM m = 0 → RegZ m) ∧ rs.length ≤ 1000) → runE C N F [.agg m.d, .lst f (rs.map uD), .v (.int .i64 reg)] = some (locD m reg (errL m (vlM m rs) rs.length reg (chkM m)))) : Runs C F (s_LocF) := runs_of i_LocF fun N hN a r hl hf => by
  obtain ⟨m, f, rs, reg⟩ := a
  simp only [Option.ite_none_right_eq_some, Option.some.injEq] at hf
  obtain ⟨hc, rfl⟩ := hf
  exact hspec N hN m f rs reg hl hc
theorem r_locate (C : Ctx) (hP : C.T 24 = some s_PartF) (hT : C.T 84 = some s_TopsF) (hO : C.T 92 = some s_Ok) : Runs C ir88 s_LocF := R_LocF fun N hN m f rs reg hl hc => by
  obtain ⟨t1, t2, t3⟩ := hc
  have hml := maxLen_ge
  have e1 := @e_PartF m reg ⟨t1, t2⟩
  unfold partD at e1
  simp only [Mc.d] at e1
  unfold locD errL
  cases h0 : decide (chkM m = 0)
  · rw [h0] at e1
    simp only [Bool.not_false, cond_true] at e1
    simp -dsimp only [runE, run_eq, res_4, ir88, Mc.d, hP, e1, h0, EVs, ↓EVd, ↓reduceIte, zA, zB, zC, zD, zE, zF, reduceBEq, reduceCtorEq, zG, zH, zI, zJ, zK, dcells, okc]
  have hz := t2 (by simpa using h0)
  rw [h0] at e1
  simp only [Bool.not_true, cond_false] at e1
  cases h1 : inB reg 0 (IntKind.i64.wrap ((m.regs.length : Int) - 1))
  · rw [h1] at e1
    simp only [Bool.not_false, cond_true] at e1
    simp -dsimp only [runE, run_eq, res_4, ir88, Mc.d, hP, e1, h0, h1, Int.reduceEq, EVs, ↓EVd, ↓reduceIte, zA, zB, zC, zD, zE, zF, reduceBEq, reduceCtorEq, zG, zH, zI, zJ, zK, dcells, okc]
  obtain ⟨hge, r, hr⟩ := inB_get (by have := hz.1; omega) h1
  rw [h1, hr] at e1
  simp only [Bool.not_true, cond_false] at e1
  have eT := @e_TopsF m hz.1
  simp only [Mc.d] at eT
  rw [hr]
  cases h2 : decide (((topsL m).length : Int) = (rs.length : Int))
  · simp -dsimp only [runE, run_eq, res_4, ir88, Mc.d, hP, e1, hT, eT, h2, Int.reduceEq, EVs, ↓EVd, ↓reduceIte, zA, zB, zC, zD, zE, zF, reduceBEq, reduceCtorEq, zG, zH, zI, zJ, zK, dcells, okc]
  have hlen : (topsL m).length = rs.length := by have := of_decide_eq_true h2; omega
  simp -dsimp only [runE, run_eq, res_4, ir88, Mc.d, hP, e1, hT, eT, h2, Int.reduceEq, EVs, ↓EVd, ↓reduceIte, zA, zB, zC, zD, zE, zF, reduceBEq, reduceCtorEq, zG, zH, zI, zJ, zK, dcells, okc]
  generalize hI : iter _ _ _ _ = I
  revert I
  refine iter_test rs (fun j _ => ⟨[(3, .ptr 0 0), (6, .v (.int .i64 (pieceP m reg r))), (7, .v (.int .i64 r.low)), (8, .v (.int .i64 r.width)), (10, .lst false ((topsL m).map iD)), (31, .lst f (rs.map uD)), (32, .v (.int .i64 rs.length)), (33, .v (.int .i64 j))], [(0, .box m.d)], 1⟩) (fun (a : Nat) x => okI (wAt m a) x) (fun a _ => a + 1) (fun _ _ => ()) (fun i a => a = i) 0 (by omega) hN ?_ rfl ?_ ?_ ?_
  · simp -dsimp only [Mc.d, EVs, ↓EVd, ↓reduceIte, zA, zB, zC, zD, zE, zF, reduceBEq, reduceCtorEq, zG, zH, zI, zJ, zK, dcells, okc]
  · rintro _ j x hj hjw hx rfl
    obtain ⟨t, ht⟩ : ∃ t, (topsL m)[j]? = some t := ⟨_, List.getElem?_eq_getElem (by have := (List.getElem?_eq_some_iff.1 hx).1; omega)⟩
    obtain ⟨q, hq, h3, h4⟩ := top_at ht
    refine ⟨?_, fun _ => rfl⟩
    rw [h4]
    have eO := @e_Ok q.width x
    simp -dsimp only [lp88x0, hj, hjw, hx, uD, iD, ht, hq, h3, Mc.d, Rg.d, hO, eO, EVs, ↓EVd, ↓reduceIte, zA, zB, zC, zD, zE, zF, reduceBEq, reduceCtorEq, zG, zH, zI, zJ, zK, dcells, okc]
    repeat' ((first | with_reducible refine gb_split (fun _ => ?_) (fun _ => ?_) | with_reducible refine gb_splitr (fun _ => ?_) (fun _ => ?_)) <;> (try simp -dsimp only [lp88x0, hj, hjw, hx, uD, iD, ht, hq, h3, Mc.d, Rg.d, hO, eO, EVs, ↓EVd, ↓reduceIte, zA, zB, zC, zD, zE, zF, reduceBEq, reduceCtorEq, zG, zH, zI, zJ, zK, dcells, okc, *]))
  · rintro _ j x hj hx rfl hs
    obtain ⟨t, ht⟩ : ∃ t, (topsL m)[j]? = some t := ⟨_, List.getElem?_eq_getElem (by have := (List.getElem?_eq_some_iff.1 hx).1; omega)⟩
    obtain ⟨q, hq, h3, h4⟩ := top_at ht
    have hv : vlM m rs = false := by unfold vlM; rw [hs]; rfl
    rw [h4, hv]
    have eO := @e_Ok q.width x
    simp -dsimp only [lp88x0, hj, hx, uD, iD, ht, hq, h3, Mc.d, Rg.d, hO, eO, res_4, Int.reduceEq, EVs, ↓EVd, ↓reduceIte, zA, zB, zC, zD, zE, zF, reduceBEq, reduceCtorEq, zG, zH, zI, zJ, zK, dcells, okc]
    repeat' ((first | with_reducible refine gb_split (fun _ => ?_) (fun _ => ?_) | with_reducible refine gb_splitr (fun _ => ?_) (fun _ => ?_)) <;> (try simp -dsimp only [lp88x0, hj, hx, uD, iD, ht, hq, h3, Mc.d, Rg.d, hO, eO, res_4, Int.reduceEq, EVs, ↓EVd, ↓reduceIte, zA, zB, zC, zD, zE, zF, reduceBEq, reduceCtorEq, zG, zH, zI, zJ, zK, dcells, okc, *]))
  · rintro _ rfl hs
    have hv : vlM m rs = true := by unfold vlM; rw [hs]; rfl
    rw [hv]
    simp -dsimp only [lp88x0, Mc.d, res_4, EVs, ↓EVd, ↓reduceIte, zA, zB, zC, zD, zE, zF, reduceBEq, reduceCtorEq, zG, zH, zI, zJ, zK, dcells, okc]
    repeat' ((first | with_reducible refine gb_split (fun _ => ?_) (fun _ => ?_) | with_reducible refine gb_splitr (fun _ => ?_) (fun _ => ?_)) <;> (try simp -dsimp only [lp88x0, Mc.d, res_4, EVs, ↓EVd, ↓reduceIte, zA, zB, zC, zD, zE, zF, reduceBEq, reduceCtorEq, zG, zH, zI, zJ, zK, dcells, okc, *]))
def x_Valued (a : Mc × Bool × (List Int) × Int) : List D := match a with | (m, f, rs, reg) => [.agg m.d, .lst f (rs.map uD), .v (.int .i64 reg)]
theorem i_Valued : ∀ a b, x_Valued a = x_Valued b → a = b := by
  rintro ⟨m, f, rs, reg⟩ ⟨m', f', rs', reg'⟩ h
  first | simpa [x_Valued, INJ, and_assoc, Int.ofNat_inj] using h | (simp [x_Valued, INJ, and_assoc, Int.ofNat_inj] at h; simp_all)
open Classical in
noncomputable def s_Valued : List D → Option D := sOf x_Valued fun a => match a with | (m, f, rs, reg) => if (MZ m ∧ (chkR m = 0 → RegZ m) ∧ rs.length ≤ 1000 ∧ ∀ x ∈ rs, 0 ≤ x ∧ x < 18446744073709551616) then some (.v (.int .i64 (errL m (vlR m rs) rs.length reg (chkR m)))) else none
theorem e_Valued {m : Mc} {f : Bool} {rs : List Int} {reg : Int} (hc : (MZ m ∧ (chkR m = 0 → RegZ m) ∧ rs.length ≤ 1000 ∧ ∀ x ∈ rs, 0 ≤ x ∧ x < 18446744073709551616)) : s_Valued [.agg m.d, .lst f (rs.map uD), .v (.int .i64 reg)] = some (.v (.int .i64 (errL m (vlR m rs) rs.length reg (chkR m)))) := (sOf_eq i_Valued (m, f, rs, reg)).trans (if_pos hc)
theorem R_Valued {C : Ctx} {F : IFun} (hspec : ∀ N, maxLen + 10 < N → ∀ (m : Mc) (f : Bool) (rs : List Int) (reg : Int), lenOK.lenOKs [.agg m.d, .lst f (rs.map uD), .v (.int .i64 reg)] → (MZ m ∧ (chkR m = 0 → RegZ m) ∧ rs.length ≤ 1000 ∧ ∀ x ∈ rs, 0 ≤ x ∧ x < 18446744073709551616) → runE C N F [.agg m.d, .lst f (rs.map uD), .v (.int .i64 reg)] = some (.v (.int .i64 (errL m (vlR m rs) rs.length reg (chkR m))))) : Runs C F (s_Valued) := runs_of i_Valued fun N hN a r hl hf => by
  obtain ⟨m, f, rs, reg⟩ := a
  simp only [Option.ite_none_right_eq_some, Option.some.injEq] at hf
  obtain ⟨hc, rfl⟩ := hf
  exact hspec N hN m f rs reg hl hc
theorem top_width {m : Mc} (hz : RegZ m) {j : Nat} {t : Int} (h : (topsL m)[j]? = some t) : 1 ≤ wAt m j ∧ wAt m j ≤ 64 := by
  obtain ⟨r, h1, _, h2⟩ := top_at h
  have := (hz.2 _ _ h1).1
  omega
theorem r_valued (C : Ctx) (hM : C.T 15 = some s_ChkR) (hW : C.T 66 = some s_in) (hT : C.T 85 = some s_TopsF) (hB : C.T 94 = some s_Below) : Runs C ir90 s_Valued := R_Valued fun N hN m f rs reg hl hc => by
  obtain ⟨t1, t2, t3, t4⟩ := hc
  have hml := maxLen_ge
  have eM := @e_ChkR m t1
  simp only [Mc.d] at eM
  have eW := @e_in reg 0 (IntKind.i64.wrap ((m.regs.length : Int) - 1))
  unfold errL
  cases h0 : decide (chkR m = 0)
  · simp -dsimp only [runE, run_eq, ir90, Mc.d, hM, eM, h0, EVs, ↓EVd, ↓reduceIte, zA, zB, zC, zD, zE, zF, reduceBEq, reduceCtorEq, zG, zH, zI, zJ, zK, dcells, okc]
  have hz := t2 (by simpa using h0)
  cases h1 : inB reg 0 (IntKind.i64.wrap ((m.regs.length : Int) - 1))
  · simp -dsimp only [runE, run_eq, ir90, Mc.d, hM, eM, h0, hW, eW, h1, Int.reduceEq, EVs, ↓EVd, ↓reduceIte, zA, zB, zC, zD, zE, zF, reduceBEq, reduceCtorEq, zG, zH, zI, zJ, zK, dcells, okc]
  have eT := @e_TopsF m hz.1
  simp only [Mc.d] at eT
  cases h2 : decide (((topsL m).length : Int) = (rs.length : Int))
  · simp -dsimp only [runE, run_eq, ir90, Mc.d, hM, eM, h0, hW, eW, h1, hT, eT, h2, Int.reduceEq, EVs, ↓EVd, ↓reduceIte, zA, zB, zC, zD, zE, zF, reduceBEq, reduceCtorEq, zG, zH, zI, zJ, zK, dcells, okc]
  have hlen : (topsL m).length = rs.length := by have := of_decide_eq_true h2; omega
  simp -dsimp only [runE, run_eq, ir90, Mc.d, hM, eM, h0, hW, eW, h1, hT, eT, h2, Int.reduceEq, EVs, ↓EVd, ↓reduceIte, zA, zB, zC, zD, zE, zF, reduceBEq, reduceCtorEq, zG, zH, zI, zJ, zK, dcells, okc]
  generalize hI : iter _ _ _ _ = I
  revert I
  refine iter_test rs (fun j _ => ⟨[(1, .lst f (rs.map uD)), (3, .ptr 0 0), (8, .lst false ((topsL m).map iD)), (9, .v (.int .i64 j))], [(0, .box m.d)], 1⟩) (fun (a : Nat) x => decide (x < p2 (wAt m a).toNat)) (fun a _ => a + 1) (fun _ _ => ()) (fun i a => a = i) 0 (by omega) hN ?_ rfl ?_ ?_ ?_
  · simp -dsimp only [Mc.d, EVs, ↓EVd, ↓reduceIte, zA, zB, zC, zD, zE, zF, reduceBEq, reduceCtorEq, zG, zH, zI, zJ, zK, dcells, okc]
  · rintro _ j x hj hjw hx rfl
    obtain ⟨t, ht⟩ : ∃ t, (topsL m)[j]? = some t := ⟨_, List.getElem?_eq_getElem (by have := (List.getElem?_eq_some_iff.1 hx).1; omega)⟩
    obtain ⟨q, hq, h3, h4⟩ := top_at ht
    have hw := top_width hz ht
    have hxb := t4 x (List.mem_of_getElem? hx)
    refine ⟨?_, fun _ => rfl⟩
    rw [h4] at hw ⊢
    have eB := @e_Below x q.width (by omega)
    have hj' : decide ((j : Int) < ((topsL m).length : Int)) = true := by rw [hlen]; exact hj
    simp -dsimp only [lp90x0, hj', hjw, hx, uD, iD, ht, hq, h3, Mc.d, Rg.d, hB, eB, EVs, ↓EVd, ↓reduceIte, zA, zB, zC, zD, zE, zF, reduceBEq, reduceCtorEq, zG, zH, zI, zJ, zK, dcells, okc]
    repeat' ((first | with_reducible refine gb_split (fun _ => ?_) (fun _ => ?_) | with_reducible refine gb_splitr (fun _ => ?_) (fun _ => ?_)) <;> (try simp -dsimp only [lp90x0, hj', hjw, hx, uD, iD, ht, hq, h3, Mc.d, Rg.d, hB, eB, EVs, ↓EVd, ↓reduceIte, zA, zB, zC, zD, zE, zF, reduceBEq, reduceCtorEq, zG, zH, zI, zJ, zK, dcells, okc, *]))
  · rintro _ j x hj hx rfl hs
    obtain ⟨t, ht⟩ : ∃ t, (topsL m)[j]? = some t := ⟨_, List.getElem?_eq_getElem (by have := (List.getElem?_eq_some_iff.1 hx).1; omega)⟩
    obtain ⟨q, hq, h3, h4⟩ := top_at ht
    have hw := top_width hz ht
    have hxb := t4 x (List.mem_of_getElem? hx)
    have hv : vlR m rs = false := by unfold vlR; rw [hs]; rfl
    rw [h4] at hw
    rw [h4, hv]
    have eB := @e_Below x q.width (by omega)
    have hj' : decide ((j : Int) < ((topsL m).length : Int)) = true := by rw [hlen]; exact hj
    simp -dsimp only [lp90x0, hj', hx, uD, iD, ht, hq, h3, Mc.d, Rg.d, hB, eB, Int.reduceEq, EVs, ↓EVd, ↓reduceIte, zA, zB, zC, zD, zE, zF, reduceBEq, reduceCtorEq, zG, zH, zI, zJ, zK, dcells, okc]
    repeat' ((first | with_reducible refine gb_split (fun _ => ?_) (fun _ => ?_) | with_reducible refine gb_splitr (fun _ => ?_) (fun _ => ?_)) <;> (try simp -dsimp only [lp90x0, hj', hx, uD, iD, ht, hq, h3, Mc.d, Rg.d, hB, eB, Int.reduceEq, EVs, ↓EVd, ↓reduceIte, zA, zB, zC, zD, zE, zF, reduceBEq, reduceCtorEq, zG, zH, zI, zJ, zK, dcells, okc, *]))
  · rintro _ rfl hs
    have hv : vlR m rs = true := by unfold vlR; rw [hs]; rfl
    rw [hv]
    simp -dsimp only [lp90x0, Mc.d, hlen, EVs, ↓EVd, ↓reduceIte, zA, zB, zC, zD, zE, zF, reduceBEq, reduceCtorEq, zG, zH, zI, zJ, zK, dcells, okc]
    repeat' ((first | with_reducible refine gb_split (fun _ => ?_) (fun _ => ?_) | with_reducible refine gb_splitr (fun _ => ?_) (fun _ => ?_)) <;> (try simp -dsimp only [lp90x0, Mc.d, hlen, EVs, ↓EVd, ↓reduceIte, zA, zB, zC, zD, zE, zF, reduceBEq, reduceCtorEq, zG, zH, zI, zJ, zK, dcells, okc, *]))
end Go.Proofs.Dv
set_option linter.unusedVariables false
set_option linter.unusedSimpArgs false
set_option maxRecDepth 100000
namespace Go.Proofs.Dv
open Go.RowKit
open Nat renaming reduceEqDiff → zA, reduceAdd → zB, reduceSub → zC, reduceLeDiff → zD, reduceLT → zE, reduceMul → zF
open Int renaming reduceToNat → zG, reduceLE → zH, reduceLT → zI
open List renaming set_cons_zero → zJ, set_cons_succ → zK
def usr (y low : Int) : Int := y.fdiv (2 ^ (min low.toNat IntKind.u64.bits))
def rdM (y low w : Int) : Int := uand (usr y low) (mskI w)
def wrM (y x low w : Int) : Int := uor (uandn y (ushl (mskI w) low)) (ushl x low)
def readD (m : Mc) (rs : List Int) (reg e : Int) : D := bif !decide (e = 0) then .tup [.v (.int .u64 0), .v (.int .i64 e)] else
  match m.regs[reg.toNat]? with
  | some r => .tup [.v (.int .u64 (rdM (rs.getD (pieceP m reg r).toNat 0) r.low r.width)), .v (.int .i64 0)]
  | none => .junk
def writeD (m : Mc) (rs : List Int) (reg x e : Int) : D := bif !decide (e = 0) then .tup [.lst true [], .v (.int .i64 e)] else
  match m.regs[reg.toNat]? with
  | some r => bif !okI r.width x then .tup [.lst true [], .v (.int .i64 24)] else .tup [.lst false ((rs.set (pieceP m reg r).toNat (wrM (rs.getD (pieceP m reg r).toNat 0) x r.low r.width)).map uD), .v (.int .i64 0)]
  | none => .junk
theorem idx_lt {x : Int} : ∀ (l : List Int) (n : Nat), x ∈ l → ∃ p : Nat, p < l.length ∧ idx x l n = ((n + p : Nat) : Int)
  | [], n, h => by simp at h
  | y :: l, n, h => by
    rw [idx]
    by_cases e : x = y
    · rw [if_pos e]; exact ⟨0, by simp, rfl⟩
    · rw [if_neg e]
      obtain ⟨p, h1, h2⟩ := idx_lt l (n + 1) (by rcases List.mem_cons.1 h with h | h; exact (e h).elim; exact h)
      exact ⟨p + 1, by simp; omega, by rw [h2]; congr 1; omega⟩
theorem piece_at {m : Mc} (hz : RegZ m) {reg : Int} (h0 : decide (0 ≤ reg) = true) {r : Rg} (hr : m.regs[reg.toNat]? = some r) {rs : List Int} (hl : (topsL m).length = rs.length) : ∃ (p : Nat) (y : Int), pieceP m reg r = (p : Int) ∧ p < rs.length ∧ rs[p]? = some y := by
  obtain ⟨p, h1, h2⟩ := idx_lt _ 0 (top_mem hz h0 hr)
  rw [hl] at h1
  exact ⟨p, rs[p], by unfold pieceP; rw [h2]; simp, h1, List.getElem?_eq_getElem h1⟩
def x_ReadF (a : Mc × Bool × (List Int) × Int) : List D := match a with | (m, f, rs, reg) => [.agg m.d, .lst f (rs.map uD), .v (.int .i64 reg)]
theorem i_ReadF : ∀ a b, x_ReadF a = x_ReadF b → a = b := by
  rintro ⟨m, f, rs, reg⟩ ⟨m', f', rs', reg'⟩ h
  first | simpa [x_ReadF, INJ, and_assoc, Int.ofNat_inj] using h | (simp [x_ReadF, INJ, and_assoc, Int.ofNat_inj] at h; simp_all)
open Classical in
noncomputable def s_ReadF : List D → Option D := sOf x_ReadF fun a => match a with | (m, f, rs, reg) => if (TOKs m ∧ (chkM m = 0 → RegZ m) ∧ rs.length ≤ 1000) then some (readD m rs reg (errL m (vlM m rs) rs.length reg (chkM m))) else none
theorem e_ReadF {m : Mc} {f : Bool} {rs : List Int} {reg : Int} (hc : (TOKs m ∧ (chkM m = 0 → RegZ m) ∧ rs.length ≤ 1000)) : s_ReadF [.agg m.d, .lst f (rs.map uD), .v (.int .i64 reg)] = some (readD m rs reg (errL m (vlM m rs) rs.length reg (chkM m))) := (sOf_eq i_ReadF (m, f, rs, reg)).trans (if_pos hc)
theorem R_ReadF {C : Ctx} {F : IFun} (hspec : ∀ N, maxLen + 10 < N → ∀ (m : Mc) (f : Bool) (rs : List Int) (reg : Int), lenOK.lenOKs [.agg m.d, .lst f (rs.map uD), .v (.int .i64 reg)] → (TOKs m ∧ (chkM m = 0 → RegZ m) ∧ rs.length ≤ 1000) → runE C N F [.agg m.d, .lst f (rs.map uD), .v (.int .i64 reg)] = some (readD m rs reg (errL m (vlM m rs) rs.length reg (chkM m)))) : Runs C F (s_ReadF) := runs_of i_ReadF fun N hN a r hl hf => by
  obtain ⟨m, f, rs, reg⟩ := a
  simp only [Option.ite_none_right_eq_some, Option.some.injEq] at hf
  obtain ⟨hc, rfl⟩ := hf
  exact hspec N hN m f rs reg hl hc
theorem r_Read (C : Ctx) (hL : C.T 88 = some s_LocF) (hK : C.T 89 = some s_Mask) : Runs C ir28 s_ReadF := R_ReadF fun N hN m f rs reg hl hc => by
  have eL := @e_LocF m f rs reg hc
  obtain ⟨t1, t2, t3⟩ := hc
  unfold readD
  unfold locD at eL
  simp only [Mc.d] at eL
  cases h0 : decide (errL m (vlM m rs) rs.length reg (chkM m) = 0)
  · rw [h0] at eL
    simp only [Bool.not_false, cond_true] at eL
    simp -dsimp only [runE, run_eq, ir28, Mc.d, hL, eL, h0, EVs, ↓EVd, ↓reduceIte, zA, zB, zC, zD, zE, zF, reduceBEq, reduceCtorEq, zG, zH, zI, zJ, zK, dcells, okc]
  obtain ⟨h1, h2, h3, h4⟩ := errL_ok h0
  have hz := t2 h1
  obtain ⟨hge, r, hr⟩ := inB_get (by have := hz.1; omega) h2
  obtain ⟨p, y, hp, hpl, hy⟩ := piece_at hz hge hr h3
  have hlow := (hz.2 _ _ hr).1
  have d1 : decide (r.low < 0) = false := decide_eq_false (by omega)
  have d2 : decide (0 ≤ (p : Int)) = true := decide_eq_true (by omega)
  have eK := @e_Mask r.width
  have hg : rs.getD p 0 = y := by rw [List.getD_eq_getElem?_getD, hy]; rfl
  rw [h0, hr] at eL
  simp only [Bool.not_true, cond_false, hp] at eL
  simp only [hr, hp, Int.toNat_natCast, hg, Bool.not_true, cond_false]
  unfold rdM uand usr
  simp -dsimp only [runE, run_eq, ir28, Mc.d, hL, eL, h0, d1, d2, hy, uD, hK, eK, EVs, ↓EVd, ↓reduceIte, zA, zB, zC, zD, zE, zF, reduceBEq, reduceCtorEq, zG, zH, zI, zJ, zK, dcells, okc]
theorem c_clone (C : Ctx) (N : Nat) (f : Bool) (rs : List Int) (nx : Nat) (hp : List (Nat × Blk)) (h1 : decide (0 < rs.length) = true) (h2 : rs.length ≤ 1000) :
    gcr nx (run C N ir93 [.lst f (rs.map uD)] hp nx) = some (.own nx rs.length, (nx, .box (rs.map uV)) :: hp, nx + 1) := by
  have h3 : decide (rs.length * 8 ≤ 140737488355328) = true := decide_eq_true (by omega)
  have h4 : (rs.map uD).isEmpty = false := by
    have := of_decide_eq_true h1
    cases rs with
    | nil => simp at this
    | cons x l => rfl
  simp -dsimp only [EVm, run_eq, ir93, h1, h3, h4, uD_one, flat_u, EVs, ↓EVd, ↓reduceIte, zA, zB, zC, zD, zE, zF, reduceBEq, reduceCtorEq, zG, zH, zI, zJ, zK, dcells, okc]
end Go.Proofs.Dv
set_option linter.unusedVariables false
set_option linter.unusedSimpArgs false
set_option maxRecDepth 100000
namespace Go.Proofs.Dv
open Go.RowKit
open Nat renaming reduceEqDiff → zA, reduceAdd → zB, reduceSub → zC, reduceLeDiff → zD, reduceLT → zE, reduceMul → zF
open Int renaming reduceToNat → zG, reduceLE → zH, reduceLT → zI
open List renaming set_cons_zero → zJ, set_cons_succ → zK
theorem mskN {W : Nat} (h1 : 1 ≤ W) (h2 : W ≤ 64) : mskI (W : Int) = ((2 ^ W - 1 : Nat) : Int) := by
  unfold mskI
  rw [if_pos (inB_iff.2 (by omega)), Int.toNat_natCast, Int.natCast_sub Nat.one_le_two_pow, Int.natCast_pow]; rfl
theorem ok_below {w x : Int} (h1 : 1 ≤ w) (h2 : w ≤ 64) : okI w x = decide (x < p2 w.toNat) := by
  obtain ⟨W, rfl⟩ : ∃ W : Nat, w = W := ⟨w.toNat, by omega⟩
  unfold okI
  rw [inB_iff.2 ⟨h1, h2⟩, Bool.true_and, mskN (by omega) (by omega), Int.toNat_natCast]
  have : p2 W = ((2 ^ W : Nat) : Int) := by simp [p2]
  rw [this]
  have h3 := Nat.one_le_two_pow (n := W)
  exact decide_eq_decide.2 (by omega)
theorem pow64 {n : Nat} (h : n ≤ 64) : 2 ^ n ≤ 18446744073709551616 := by
  have := Nat.pow_le_pow_right (n := 2) (by omega) h
  exact this
theorem pow64l {n : Nat} (h : n < 64) : 2 ^ n < 18446744073709551616 := by
  have := Nat.pow_lt_pow_right (a := 2) (by omega) h
  exact this
theorem usr_nat {Y L : Nat} (h : L ≤ 64) : usr (Y : Int) (L : Int) = ((Y / 2 ^ L : Nat) : Int) := by
  unfold usr
  rw [Int.toNat_natCast, show IntKind.u64.bits = 64 from rfl, show min L 64 = L by omega, Int.fdiv_eq_ediv_of_nonneg _ (Int.le_of_lt (Int.pow_pos (by omega))), show ((2 : Int) ^ L) = ((2 ^ L : Nat) : Int) by rw [Int.natCast_pow]; rfl]
  rfl
def rdN (y low w : Int) : Int := ((y.toNat / 2 ^ low.toNat % 2 ^ w.toNat : Nat) : Int)
theorem rdMN {y low w : Int} (hy : 0 ≤ y ∧ y < 18446744073709551616) (h0 : 0 ≤ low) (h1 : 1 ≤ w) (h2 : low + w ≤ 64) : rdM y low w = rdN y low w := by
  obtain ⟨Y, rfl⟩ : ∃ Y : Nat, y = Y := ⟨y.toNat, by omega⟩
  obtain ⟨L, rfl⟩ : ∃ L : Nat, low = L := ⟨low.toNat, by omega⟩
  obtain ⟨W, rfl⟩ : ∃ W : Nat, w = W := ⟨w.toNat, by omega⟩
  have hq : Y / 2 ^ L ≤ Y := Nat.div_le_self _ _
  have hp := pow64 (n := W) (by omega)
  have hp1 := Nat.one_le_two_pow (n := W)
  unfold rdM rdN
  rw [usr_nat (by omega), mskN (by omega) (by omega), uand_nat (by omega) (by omega), Int.toNat_natCast, Int.toNat_natCast, Int.toNat_natCast, Nat.and_two_pow_sub_one_eq_mod]
theorem wr_bits {Y X L W : Nat} (hY : Y < 2 ^ 64) (hX : X < 2 ^ W) (h1 : 1 ≤ W) (h2 : L + W ≤ 64) : ∃ M : Nat, wrM (Y : Int) (X : Int) (L : Int) (W : Int) = (M : Int) ∧ M < 2 ^ 64 ∧
    ∀ i, i < 64 → M.testBit i = if L ≤ i ∧ i < L + W then X.testBit (i - L) else Y.testBit i := by
  have hp1 := Nat.one_le_two_pow (n := W)
  have hLW : 2 ^ (L + W) ≤ 2 ^ 64 := Nat.pow_le_pow_right (by omega) h2
  have hs : ∀ Z : Nat, Z < 2 ^ W → ushl (Z : Int) (L : Int) = ((Z * 2 ^ L : Nat) : Int) ∧ Z * 2 ^ L < 2 ^ 64 := by
    intro Z hZ
    have hlt : Z * 2 ^ L < 2 ^ 64 := by
      have : Z * 2 ^ L < 2 ^ W * 2 ^ L := Nat.mul_lt_mul_of_pos_right hZ (Nat.two_pow_pos L)
      rw [← Nat.pow_add, Nat.add_comm] at this
      omega
    refine ⟨?_, hlt⟩
    unfold ushl
    rw [Int.toNat_natCast, show IntKind.u64.bits = 64 from rfl, show min L 64 = L by omega, show ((2 : Int) ^ L) = ((2 ^ L : Nat) : Int) by rw [Int.natCast_pow]; rfl, ← Int.natCast_mul]
    exact wu _ (Int.natCast_nonneg _) (by omega)
  obtain ⟨m1, m2⟩ := hs (2 ^ W - 1) (by omega)
  obtain ⟨x1, x2⟩ := hs X hX
  have han : uandn (Y : Int) (((2 ^ W - 1) * 2 ^ L : Nat) : Int) = (((BitVec.ofNat 64 Y &&& ~~~ BitVec.ofNat 64 ((2 ^ W - 1) * 2 ^ L)).toNat : Nat) : Int) := by
    unfold uandn
    show IntKind.u64.wrap ((BitVec.ofInt 64 (Y : Int) &&& ~~~ BitVec.ofInt 64 ((((2 ^ W - 1) * 2 ^ L : Nat)) : Int)).toNat : Int) = _
    rw [bv_nat, bv_nat]
    exact wu _ (Int.natCast_nonneg _) (by have := (BitVec.ofNat 64 Y &&& ~~~ BitVec.ofNat 64 ((2 ^ W - 1) * 2 ^ L)).isLt; omega)
  have hAl := (BitVec.ofNat 64 Y &&& ~~~ BitVec.ofNat 64 ((2 ^ W - 1) * 2 ^ L)).isLt
  refine ⟨(BitVec.ofNat 64 Y &&& ~~~ BitVec.ofNat 64 ((2 ^ W - 1) * 2 ^ L)).toNat ||| X * 2 ^ L, ?_, Nat.or_lt_two_pow hAl x2, fun i hi => ?_⟩
  · unfold wrM
    rw [mskN h1 (by omega), m1, x1, han, uor_nat hAl x2]
  · rw [Nat.testBit_or, ← BitVec.getLsbD]
    rw [← Nat.shiftLeft_eq, ← Nat.shiftLeft_eq]
    simp only [BitVec.getLsbD_and, BitVec.getLsbD_not, BitVec.getLsbD_ofNat, hi, decide_true, Bool.true_and, Nat.testBit_shiftLeft, Nat.testBit_two_pow_sub_one]
    by_cases h : L ≤ i ∧ i < L + W
    · rw [if_pos h, decide_eq_true (show i ≥ L from h.1), decide_eq_true (show i - L < W by omega)]
      simp
    · rw [if_neg h]
      by_cases hL : i ≥ L
      · rw [decide_eq_true hL, decide_eq_false (show ¬ i - L < W by omega)]
        have : X.testBit (i - L) = false := Nat.testBit_lt_two_pow (Nat.lt_of_lt_of_le hX (Nat.pow_le_pow_right (by omega) (by omega)))
        rw [this]; simp
      · rw [decide_eq_false hL]; simp
def pw (i : Nat) : Int := IntKind.u64.wrap (((2 ^ i : Nat) : Nat) : Int)
theorem pw_0 : pw 0 = 1 := by unfold pw; exact wu _ (by omega) (by omega)
theorem pw_lt {i : Nat} (h : i < 64) : pw i = ((2 ^ i : Nat) : Int) := wu _ (Int.natCast_nonneg _) (by have := pow64l h; omega)
theorem pw_succ {i : Nat} (h : i < 64) : IntKind.u64.wrap (2 * pw i) = pw (i + 1) := by
  rw [pw_lt h]; unfold pw
  rw [Nat.pow_succ, Nat.mul_comm, Int.natCast_mul]; rfl
theorem acc_go {n i : Nat} (hi : i < 64) (hb : n / 2 ^ i % 2 = 1) : IntKind.u64.wrap (((n % 2 ^ i : Nat) : Int) + pw i) = ((n % 2 ^ (i + 1) : Nat) : Int) := by
  have h1 : n % 2 ^ (i + 1) = n % 2 ^ i + 2 ^ i * (n / 2 ^ i % 2) := Nat.mod_pow_succ
  have h2 : n % 2 ^ (i + 1) < 2 ^ (i + 1) := Nat.mod_lt _ (Nat.two_pow_pos _)
  have h3 := pow64 (n := i + 1) (by omega)
  rw [hb, Nat.mul_one] at h1
  rw [pw_lt hi, ← Int.natCast_add, ← h1]
  exact wu _ (Int.natCast_nonneg _) (by omega)
theorem acc_no {n i : Nat} (hb : ¬ n / 2 ^ i % 2 = 1) : n % 2 ^ (i + 1) = n % 2 ^ i := by
  have h1 : n % 2 ^ (i + 1) = n % 2 ^ i + 2 ^ i * (n / 2 ^ i % 2) := Nat.mod_pow_succ
  have : n / 2 ^ i % 2 = 0 := by omega
  rw [h1, this]; omega
theorem bit_dec {x i : Nat} : decide (bitI (x : Int) (i : Int) = 1) = decide (x / 2 ^ i % 2 = 1) := by
  unfold bitI
  rw [Int.toNat_natCast, Int.toNat_natCast]
  exact decide_eq_decide.2 (by omega)
end Go.Proofs.Dv
set_option linter.unusedVariables false
set_option linter.unusedSimpArgs false
set_option maxRecDepth 100000
namespace Go.Proofs.Dv
open Go.RowKit
open Nat renaming reduceEqDiff → zA, reduceAdd → zB, reduceSub → zC, reduceLeDiff → zD, reduceLT → zE, reduceMul → zF
open Int renaming reduceToNat → zG, reduceLE → zH, reduceLT → zI
open List renaming set_cons_zero → zJ, set_cons_succ → zK
def x_BitsF (a : Int × Int × Int) : List D := match a with | (y, low, w) => [.v (.int .u64 y), .v (.int .i64 low), .v (.int .i64 w)]
theorem i_BitsF : ∀ a b, x_BitsF a = x_BitsF b → a = b := by
  rintro ⟨y, low, w⟩ ⟨y', low', w'⟩ h
  first | simpa [x_BitsF, INJ, and_assoc, Int.ofNat_inj] using h | (simp [x_BitsF, INJ, and_assoc, Int.ofNat_inj] at h; simp_all)
open Classical in
noncomputable def s_BitsF : List D → Option D := sOf x_BitsF fun a => match a with | (y, low, w) => if (0 ≤ y ∧ y < 18446744073709551616 ∧ 0 ≤ low ∧ 0 ≤ w ∧ low + w ≤ 64) then some (.v (.int .u64 (rdN y low w))) else none
theorem e_BitsF {y : Int} {low : Int} {w : Int} (hc : (0 ≤ y ∧ y < 18446744073709551616 ∧ 0 ≤ low ∧ 0 ≤ w ∧ low + w ≤ 64)) : s_BitsF [.v (.int .u64 y), .v (.int .i64 low), .v (.int .i64 w)] = some (.v (.int .u64 (rdN y low w))) := (sOf_eq i_BitsF (y, low, w)).trans (if_pos hc)
theorem R_BitsF {C : Ctx} {F : IFun} (hspec : ∀ N, maxLen + 10 < N → ∀ (y : Int) (low : Int) (w : Int), lenOK.lenOKs [.v (.int .u64 y), .v (.int .i64 low), .v (.int .i64 w)] → (0 ≤ y ∧ y < 18446744073709551616 ∧ 0 ≤ low ∧ 0 ≤ w ∧ low + w ≤ 64) → runE C N F [.v (.int .u64 y), .v (.int .i64 low), .v (.int .i64 w)] = some (.v (.int .u64 (rdN y low w)))) : Runs C F (s_BitsF) := runs_of i_BitsF fun N hN a r hl hf => by
  obtain ⟨y, low, w⟩ := a
  simp only [Option.ite_none_right_eq_some, Option.some.injEq] at hf
  obtain ⟨hc, rfl⟩ := hf
  exact hspec N hN y low w hl hc
theorem r_Bits (C : Ctx) (hB : C.T 95 = some s_BitS) : Runs C ir91 s_BitsF := R_BitsF fun N hN y low w hl hc => by
  obtain ⟨Y, rfl⟩ : ∃ k : Nat, y = k := ⟨y.toNat, by omega⟩
  obtain ⟨L, rfl⟩ : ∃ k : Nat, low = k := ⟨low.toNat, by omega⟩
  obtain ⟨W, rfl⟩ : ∃ k : Nat, w = k := ⟨w.toNat, by omega⟩
  have hml := maxLen_ge
  simp -dsimp only [runE, run_eq, ir91, EVs, ↓EVd, ↓reduceIte, zA, zB, zC, zD, zE, zF, reduceBEq, reduceCtorEq, zG, zH, zI, zJ, zK, dcells, okc]
  generalize hI : iter _ _ _ _ = I
  revert I
  refine iter_all (List.replicate W ()) (fun i _ => ⟨[(0, .v (.int .u64 Y)), (1, .v (.int .i64 L)), (2, .v (.int .i64 W)), (7, .v (.int .u64 ((Y / 2 ^ L % 2 ^ i : Nat) : Int))), (8, .v (.int .u64 (pw i))), (9, .v (.int .i64 i))], [], 0⟩) (fun (_ : Unit) _ => ()) (fun _ _ => True) () (by simp; omega) hN ?_ trivial ?_ ?_
  · have h1 : ((Y / 2 ^ L % 2 ^ 0 : Nat) : Int) = 0 := by rw [Nat.pow_zero, Nat.mod_one]; rfl
    rw [h1, pw_0]
    simp -dsimp only [EVs, ↓EVd, ↓reduceIte, zA, zB, zC, zD, zE, zF, reduceBEq, reduceCtorEq, zG, zH, zI, zJ, zK, dcells, okc]
  · intro i _ x hi hw _ _
    rw [List.length_replicate] at hi
    refine ⟨?_, trivial⟩
    have hiW : i < W := by have := of_decide_eq_true hi; omega
    have w1 : IntKind.i64.wrap ((L : Int) + (i : Int)) = ((L + i : Nat) : Int) := wr _ (by omega) (by omega)
    have eB := @e_BitS (Y : Int) ((L + i : Nat) : Int) (by omega)
    have hb : decide (bitI (Y : Int) ((L + i : Nat) : Int) = 1) = decide (Y / 2 ^ L / 2 ^ i % 2 = 1) := by
      rw [bit_dec, Nat.pow_add, Nat.div_div_eq_div_mul]
    have hv := pw_succ (i := i) (by omega)
    by_cases h : Y / 2 ^ L / 2 ^ i % 2 = 1
    · have ha := acc_go (by omega) h
      rw [decide_eq_true h] at hb
      simp -dsimp only [lp91x0, hi, hw, w1, hB, eB, hb, ha, hv, EVs, ↓EVd, ↓reduceIte, zA, zB, zC, zD, zE, zF, reduceBEq, reduceCtorEq, zG, zH, zI, zJ, zK, dcells, okc]
    · have ha := acc_no h
      rw [decide_eq_false h] at hb
      rw [ha]
      simp -dsimp only [lp91x0, hi, hw, w1, hB, eB, hb, hv, EVs, ↓EVd, ↓reduceIte, zA, zB, zC, zD, zE, zF, reduceBEq, reduceCtorEq, zG, zH, zI, zJ, zK, dcells, okc]
  · intro _
    unfold rdN
    rw [List.length_replicate]
    simp only [Int.toNat_natCast]
    simp -dsimp only [lp91x0, EVs, ↓EVd, ↓reduceIte, zA, zB, zC, zD, zE, zF, reduceBEq, reduceCtorEq, zG, zH, zI, zJ, zK, dcells, okc]
def x_ReadF8 (a : Mc × Bool × (List Int) × Int) : List D := match a with | (m, f, rs, reg) => [.agg m.d, .lst f (rs.map uD), .v (.int .i64 reg)]
theorem i_ReadF8 : ∀ a b, x_ReadF8 a = x_ReadF8 b → a = b := by
  rintro ⟨m, f, rs, reg⟩ ⟨m', f', rs', reg'⟩ h
  first | simpa [x_ReadF8, INJ, and_assoc, Int.ofNat_inj] using h | (simp [x_ReadF8, INJ, and_assoc, Int.ofNat_inj] at h; simp_all)
open Classical in
noncomputable def s_ReadF8 : List D → Option D := sOf x_ReadF8 fun a => match a with | (m, f, rs, reg) => if (MZ m ∧ (chkR m = 0 → RegZ m) ∧ rs.length ≤ 1000 ∧ ∀ x ∈ rs, 0 ≤ x ∧ x < 18446744073709551616) then some (readD m rs reg (errL m (vlR m rs) rs.length reg (chkR m))) else none
theorem e_ReadF8 {m : Mc} {f : Bool} {rs : List Int} {reg : Int} (hc : (MZ m ∧ (chkR m = 0 → RegZ m) ∧ rs.length ≤ 1000 ∧ ∀ x ∈ rs, 0 ≤ x ∧ x < 18446744073709551616)) : s_ReadF8 [.agg m.d, .lst f (rs.map uD), .v (.int .i64 reg)] = some (readD m rs reg (errL m (vlR m rs) rs.length reg (chkR m))) := (sOf_eq i_ReadF8 (m, f, rs, reg)).trans (if_pos hc)
theorem R_ReadF8 {C : Ctx} {F : IFun} (hspec : ∀ N, maxLen + 10 < N → ∀ (m : Mc) (f : Bool) (rs : List Int) (reg : Int), lenOK.lenOKs [.agg m.d, .lst f (rs.map uD), .v (.int .i64 reg)] → (MZ m ∧ (chkR m = 0 → RegZ m) ∧ rs.length ≤ 1000 ∧ ∀ x ∈ rs, 0 ≤ x ∧ x < 18446744073709551616) → runE C N F [.agg m.d, .lst f (rs.map uD), .v (.int .i64 reg)] = some (readD m rs reg (errL m (vlR m rs) rs.length reg (chkR m)))) : Runs C F (s_ReadF8) := runs_of i_ReadF8 fun N hN a r hl hf => by
  obtain ⟨m, f, rs, reg⟩ := a
  simp only [Option.ite_none_right_eq_some, Option.some.injEq] at hf
  obtain ⟨hc, rfl⟩ := hf
  exact hspec N hN m f rs reg hl hc
theorem r_Read8 (C : Ctx) (hV : C.T 90 = some s_Valued) (hP : C.T 87 = some s_PieceF) (hB : C.T 91 = some s_BitsF) : Runs C ir29 s_ReadF8 := R_ReadF8 fun N hN m f rs reg hl hc => by
  have eV := @e_Valued m f rs reg hc
  obtain ⟨t1, t2, t3, t4⟩ := hc
  unfold readD
  simp only [Mc.d] at eV
  cases h0 : decide (errL m (vlR m rs) rs.length reg (chkR m) = 0)
  · simp -dsimp only [runE, run_eq, ir29, Mc.d, hV, eV, h0, EVs, ↓EVd, ↓reduceIte, zA, zB, zC, zD, zE, zF, reduceBEq, reduceCtorEq, zG, zH, zI, zJ, zK, dcells, okc]
  obtain ⟨h1, h2, h3, h4⟩ := errL_ok h0
  have hz := t2 h1
  obtain ⟨hge, r, hr⟩ := inB_get (by have := hz.1; omega) h2
  obtain ⟨p, y, hp, hpl, hy⟩ := piece_at hz hge hr h3
  have hlow := (hz.2 _ _ hr).1
  have hyb := t4 y (List.mem_of_getElem? hy)
  have d2 : decide (0 ≤ (p : Int)) = true := decide_eq_true (by omega)
  have eP := @e_PieceF m reg ⟨hz, h2⟩
  unfold pieceD at eP
  rw [hr] at eP
  simp only [Mc.d, hp] at eP
  have hg : rs.getD p 0 = y := by rw [List.getD_eq_getElem?_getD, hy]; rfl
  have eB := @e_BitsF y r.low r.width (by omega)
  simp only [hr, hp, Int.toNat_natCast, hg, Bool.not_true, cond_false]
  rw [rdMN hyb hlow.2.2.1 hlow.1 hlow.2.2.2]
  simp -dsimp only [runE, run_eq, ir29, Mc.d, hV, eV, h0, hP, eP, d2, hy, uD, hB, eB, EVs, ↓EVd, ↓reduceIte, zA, zB, zC, zD, zE, zF, reduceBEq, reduceCtorEq, zG, zH, zI, zJ, zK, dcells, okc]
theorem uV_idlt {n : Nat} : ∀ {l : List Int}, idlt.idlts n (l.map uV) = true
  | [] => by rw [List.map_nil]; rfl
  | x :: l => by simp only [List.map_cons, idlt.idlts, uV_idlt (l := l), uV, idlt, Bool.and_self]
def x_WriteF8 (a : Mc × Bool × (List Int) × Int × Int) : List D := match a with | (m, f, rs, reg, x) => [.agg m.d, .lst f (rs.map uD), .v (.int .i64 reg), .v (.int .u64 x)]
theorem i_WriteF8 : ∀ a b, x_WriteF8 a = x_WriteF8 b → a = b := by
  rintro ⟨m, f, rs, reg, x⟩ ⟨m', f', rs', reg', x'⟩ h
  first | simpa [x_WriteF8, INJ, and_assoc, Int.ofNat_inj] using h | (simp [x_WriteF8, INJ, and_assoc, Int.ofNat_inj] at h; simp_all)
open Classical in
noncomputable def s_WriteF8 : List D → Option D := sOf x_WriteF8 fun a => match a with | (m, f, rs, reg, x) => if (MZ m ∧ (chkR m = 0 → RegZ m) ∧ rs.length ≤ 1000 ∧ (∀ x ∈ rs, 0 ≤ x ∧ x < 18446744073709551616) ∧ 0 ≤ x ∧ x < 18446744073709551616) then some (writeD m rs reg x (errL m (vlR m rs) rs.length reg (chkR m))) else none
theorem e_WriteF8 {m : Mc} {f : Bool} {rs : List Int} {reg : Int} {x : Int} (hc : (MZ m ∧ (chkR m = 0 → RegZ m) ∧ rs.length ≤ 1000 ∧ (∀ x ∈ rs, 0 ≤ x ∧ x < 18446744073709551616) ∧ 0 ≤ x ∧ x < 18446744073709551616)) : s_WriteF8 [.agg m.d, .lst f (rs.map uD), .v (.int .i64 reg), .v (.int .u64 x)] = some (writeD m rs reg x (errL m (vlR m rs) rs.length reg (chkR m))) := (sOf_eq i_WriteF8 (m, f, rs, reg, x)).trans (if_pos hc)
set_option maxHeartbeats 2000000 in
theorem r_Write8 (C : Ctx) (hV : C.T 90 = some s_Valued) (hP : C.T 87 = some s_PieceF) (hW : C.T 66 = some s_in) (hB : C.T 95 = some s_BitS) (hBl : C.T 94 = some s_Below) : RunsP C ir31 s_WriteF8 := runsP_of i_WriteF8 fun N hN a ret hl hf => by
  obtain ⟨m, f, rs, reg, x⟩ := a
  simp only [Option.ite_none_right_eq_some, Option.some.injEq] at hf
  obtain ⟨hc, rfl⟩ := hf
  obtain ⟨t1, t2, t3, t4, t5⟩ := hc
  have eV := @e_Valued m f rs reg ⟨t1, t2, t3, t4⟩
  have hml := maxLen_ge
  unfold writeD
  simp only [x_WriteF8]
  simp only [Mc.d] at eV
  cases h0 : decide (errL m (vlR m rs) rs.length reg (chkR m) = 0)
  · simp -dsimp only [EVm, runP, run_eq, ir31, Mc.d, hV, eV, h0, EVs, ↓EVd, ↓reduceIte, zA, zB, zC, zD, zE, zF, reduceBEq, reduceCtorEq, zG, zH, zI, zJ, zK, dcells, okc]
  obtain ⟨h1, h2, h3, h4⟩ := errL_ok h0
  have hz := t2 h1
  obtain ⟨hge, r, hr⟩ := inB_get (by have := hz.1; omega) h2
  obtain ⟨p, y, hp, hpl, hy⟩ := piece_at hz hge hr h3
  have hlow := (hz.2 _ _ hr).1
  have hyb := t4 y (List.mem_of_getElem? hy)
  have d2 : decide (0 ≤ (p : Int)) = true := decide_eq_true (by omega)
  have d3 : decide ((p : Int) < (rs.length : Int)) = true := decide_eq_true (by omega)
  have d4 : p + 1 ≤ rs.length := hpl
  have d5 : decide (rs.length = rs.length) = true := decide_eq_true rfl
  have d6 : decide (rs.length * 8 ≤ 140737488355328) = true := decide_eq_true (by omega)
  have d7 : (rs.map uD).isEmpty = false := by
    cases rs with
    | nil => simp at hpl
    | cons x l => rfl
  have eP := @e_PieceF m reg ⟨hz, h2⟩
  unfold pieceD at eP
  rw [hr] at eP
  simp only [Mc.d, hp] at eP
  have hg : rs.getD p 0 = y := by rw [List.getD_eq_getElem?_getD, hy]; rfl
  have eBl := @e_Below x r.width (by omega)
  simp only [hr, hp, Int.toNat_natCast, hg, Bool.not_true, cond_false]
  rw [ok_below hlow.1 hlow.2.1]
  cases h5 : decide (x < p2 r.width.toNat)
  · simp -dsimp only [EVm, runP, run_eq, ir31, Mc.d, Rg.d, hV, eV, h0, hge, hr, hBl, eBl, h5, Int.reduceEq, EVs, ↓EVd, ↓reduceIte, zA, zB, zC, zD, zE, zF, reduceBEq, reduceCtorEq, zG, zH, zI, zJ, zK, dcells, okc]
  obtain ⟨Y, rfl⟩ : ∃ k : Nat, y = k := ⟨y.toNat, by omega⟩
  obtain ⟨X, rfl⟩ : ∃ k : Nat, x = k := ⟨x.toNat, by omega⟩
  obtain ⟨L, hL⟩ : ∃ k : Nat, r.low = k := ⟨r.low.toNat, by omega⟩
  obtain ⟨W, hWd⟩ : ∃ k : Nat, r.width = k := ⟨r.width.toNat, by omega⟩
  rw [hL, hWd] at hlow
  have hXW : X < 2 ^ W := by
    have := of_decide_eq_true h5
    rw [hWd, Int.toNat_natCast, show p2 W = ((2 ^ W : Nat) : Int) by simp [p2]] at this
    omega
  obtain ⟨M, hM, hM1, hM2⟩ := wr_bits (Y := Y) (X := X) (L := L) (W := W) (by omega) hXW (by omega) (by omega)
  rw [hL, hWd] at eP
  rw [hL, hWd, hM]
  rw [hWd, Int.toNat_natCast] at h5 eBl
  simp -dsimp only [EVm, runP, run_eq, ir31, Mc.d, Rg.d, hV, eV, h0, hge, hr, hWd, hBl, eBl, h5, hP, eP, d6, d7, uD_one, flat_u, EVs, ↓EVd, ↓reduceIte, zA, zB, zC, zD, zE, zF, reduceBEq, reduceCtorEq, zG, zH, zI, zJ, zK, dcells, okc]
  generalize hI : iter _ _ _ _ = I
  revert I
  refine iter_all (List.replicate 64 ()) (fun i _ => ⟨[(1, .lst f (rs.map uD)), (3, .v (.int .u64 X)), (11, .v (.int .i64 p)), (12, .v (.int .i64 L)), (13, .v (.int .i64 W)), (14, .own 1 rs.length), (15, .v (.int .u64 ((M % 2 ^ i : Nat) : Int))), (16, .v (.int .u64 (pw i))), (17, .v (.int .i64 i))], [(1, .box (rs.map uV)), (0, .box m.d)], 2⟩) (fun (_ : Unit) _ => ()) (fun _ _ => True) () (by simp; omega) hN ?_ trivial ?_ ?_
  · have h1 : ((M % 2 ^ 0 : Nat) : Int) = 0 := by rw [Nat.pow_zero, Nat.mod_one]; rfl
    rw [h1, pw_0]
    simp -dsimp only [Mc.d, uV_idlt, EVs, ↓EVd, ↓reduceIte, zA, zB, zC, zD, zE, zF, reduceBEq, reduceCtorEq, zG, zH, zI, zJ, zK, dcells, okc]
  · intro i _ _ hi hw _ _
    rw [List.length_replicate] at hi
    refine ⟨?_, trivial⟩
    have hiW : i < 64 := by have := of_decide_eq_true hi; omega
    have hi' : decide ((i : Int) < 64) = true := decide_eq_true (by omega)
    have w1 : IntKind.i64.wrap ((L : Int) + (W : Int)) = ((L + W : Nat) : Int) := wr _ (by omega) (by omega)
    have w2 : IntKind.i64.wrap (((L + W : Nat) : Int) - 1) = ((L + W : Nat) : Int) - 1 := wr _ (by omega) (by omega)
    have eW := @e_in (i : Int) (L : Int) (((L + W : Nat) : Int) - 1)
    have eB := @e_BitS (Y : Int) (i : Int) (by omega)
    have hv := pw_succ (i := i) hiW
    have hbit := hM2 i hiW
    rw [Nat.testBit_eq_decide_div_mod_eq] at hbit
    have d8 : decide (bitI (Y : Int) (i : Int) = 1) = Y.testBit i := by rw [bit_dec, Nat.testBit_eq_decide_div_mod_eq]
    cases hin : inB (i : Int) (L : Int) (((L + W : Nat) : Int) - 1)
    · have hno : ¬ (L ≤ i ∧ i < L + W) := fun h => by
        have : inB (i : Int) (L : Int) (((L + W : Nat) : Int) - 1) = true := inB_iff.2 (by omega)
        rw [hin] at this; simp at this
      rw [if_neg hno] at hbit
      rw [← hbit] at d8
      by_cases h : M / 2 ^ i % 2 = 1
      · have ha := acc_go hiW h
        rw [decide_eq_true h] at d8
        simp -dsimp only [EVm, lp31x0, hi', hw, hy, uD, d2, Mc.d, uV_idlt, w1, w2, hW, eW, hin, hB, eB, d8, ha, hv, EVs, ↓EVd, ↓reduceIte, zA, zB, zC, zD, zE, zF, reduceBEq, reduceCtorEq, zG, zH, zI, zJ, zK, dcells, okc]
      · have ha := acc_no h
        rw [decide_eq_false h] at d8
        rw [ha]
        simp -dsimp only [EVm, lp31x0, hi', hw, hy, uD, d2, Mc.d, uV_idlt, w1, w2, hW, eW, hin, hB, eB, d8, hv, EVs, ↓EVd, ↓reduceIte, zA, zB, zC, zD, zE, zF, reduceBEq, reduceCtorEq, zG, zH, zI, zJ, zK, dcells, okc]
    · have hyes := inB_iff.1 hin
      have hyes' : L ≤ i ∧ i < L + W := by omega
      rw [if_pos hyes'] at hbit
      have w3 : IntKind.i64.wrap ((i : Int) - (L : Int)) = ((i - L : Nat) : Int) := by
        have : (i : Int) - (L : Int) = ((i - L : Nat) : Int) := by omega
        rw [this]; exact wr _ (by omega) (by omega)
      have eX := @e_BitS (X : Int) ((i - L : Nat) : Int) (by omega)
      have d9 : decide (bitI (X : Int) ((i - L : Nat) : Int) = 1) = X.testBit (i - L) := by rw [bit_dec, Nat.testBit_eq_decide_div_mod_eq]
      rw [← hbit] at d9
      by_cases h : M / 2 ^ i % 2 = 1
      · have ha := acc_go hiW h
        rw [decide_eq_true h] at d9
        simp -dsimp only [EVm, lp31x0, hi', hw, hy, uD, d2, Mc.d, uV_idlt, w1, w2, w3, hW, eW, hin, hB, eB, eX, d9, ha, hv, EVs, ↓EVd, ↓reduceIte, zA, zB, zC, zD, zE, zF, reduceBEq, reduceCtorEq, zG, zH, zI, zJ, zK, dcells, okc]
      · have ha := acc_no h
        rw [decide_eq_false h] at d9
        rw [ha]
        simp -dsimp only [EVm, lp31x0, hi', hw, hy, uD, d2, Mc.d, uV_idlt, w1, w2, w3, hW, eW, hin, hB, eB, eX, d9, hv, EVs, ↓EVd, ↓reduceIte, zA, zB, zC, zD, zE, zF, reduceBEq, reduceCtorEq, zG, zH, zI, zJ, zK, dcells, okc]
  · intro _
    rw [List.length_replicate]
    have h1 : M % 2 ^ 64 = M := Nat.mod_eq_of_lt hM1
    have d10 : decide (((64 : Nat) : Int) < 64) = false := by decide
    rw [h1]
    simp -dsimp only [EVm, lp31x0, d10, Mc.d, d2, d3, d4, d5, Nat.mul_one, List.length_set, uV_cls, uV_sing, uV_set hpl, EVs, ↓EVd, ↓reduceIte, zA, zB, zC, zD, zE, zF, reduceBEq, reduceCtorEq, zG, zH, zI, zJ, zK, dcells, okc]
end Go.Proofs.Dv
set_option linter.unusedVariables false
set_option linter.unusedSimpArgs false
set_option maxRecDepth 100000
namespace Go.Proofs.Dv
open Go.RowKit
open Nat renaming reduceEqDiff → zA, reduceAdd → zB, reduceSub → zC, reduceLeDiff → zD, reduceLT → zE, reduceMul → zF
open Int renaming reduceToNat → zG, reduceLE → zH, reduceLT → zI
open List renaming set_cons_zero → zJ, set_cons_succ → zK
def writeW (m : Mc) (rs : List Int) (reg x e : Int) (hp : List (Nat × Blk)) (nx : Nat) : D × List (Nat × Blk) × Nat := bif !decide (e = 0) then (.tup [.lst true [], .v (.int .i64 e)], hp, nx) else
  match m.regs[reg.toNat]? with
  | some r => bif !okI r.width x then (.tup [.lst true [], .v (.int .i64 24)], hp, nx) else
    (.tup [.own (nx + 1) rs.length, .v (.int .i64 0)], (nx + 1, .box ((rs.set (pieceP m reg r).toNat (wrM (rs.getD (pieceP m reg r).toNat 0) x r.low r.width)).map uV)) :: (nx, .box m.d) :: hp, nx + 2)
  | none => (.junk, hp, nx)
theorem c_Write (C : Ctx) (N : Nat) (hL : C.T 88 = some s_LocF) (hK : C.T 89 = some s_Mask) (hO : C.T 92 = some s_Ok) (hn : C.T 93 = none)
    (hcal : ∀ (f : Bool) (rs : List Int) (nx : Nat) (hp : List (Nat × Blk)), decide (0 < rs.length) = true → rs.length ≤ 1000 → C.cal 93 [.lst f (rs.map uD)] hp nx = some (.own nx rs.length, (nx, .box (rs.map uV)) :: hp, nx + 1))
    (m : Mc) (f : Bool) (rs : List Int) (reg x : Int) (hp : List (Nat × Blk)) (nx : Nat) (hk : Hk nx hp) (t1 : TOKs m) (t2 : chkM m = 0 → RegZ m) (t3 : rs.length ≤ 1000) :
    gcr nx (run C N ir30 [.agg m.d, .lst f (rs.map uD), .v (.int .i64 reg), .v (.int .u64 x)] hp nx) = some (writeW m rs reg x (errL m (vlM m rs) rs.length reg (chkM m)) hp nx) := by
  have eL := @e_LocF m f rs reg ⟨t1, t2, t3⟩
  have ha := hk.a
  have hb := hk.b
  unfold writeW
  unfold locD at eL
  simp only [Mc.d] at eL
  cases h0 : decide (errL m (vlM m rs) rs.length reg (chkM m) = 0)
  · rw [h0] at eL
    simp only [Bool.not_false, cond_true] at eL
    simp -dsimp only [EVm, run_eq, ir30, Mc.d, hL, eL, h0, ha, hb, EVs, ↓EVd, ↓reduceIte, zA, zB, zC, zD, zE, zF, reduceBEq, reduceCtorEq, zG, zH, zI, zJ, zK, dcells, okc]
  obtain ⟨h1, h2, h3, h4⟩ := errL_ok h0
  have hz := t2 h1
  obtain ⟨hge, r, hr⟩ := inB_get (by have := hz.1; omega) h2
  obtain ⟨p, y, hp', hpl, hy⟩ := piece_at hz hge hr h3
  have hlow := (hz.2 _ _ hr).1
  have d1 : decide (r.low < 0) = false := decide_eq_false (by omega)
  have d2 : decide (0 ≤ (p : Int)) = true := decide_eq_true (by omega)
  have d3 : decide ((p : Int) < (rs.length : Int)) = true := decide_eq_true (by omega)
  have d4 : p + 1 ≤ rs.length := hpl
  have eK := @e_Mask r.width
  have eO := @e_Ok r.width x
  have hg : rs.getD p 0 = y := by rw [List.getD_eq_getElem?_getD, hy]; rfl
  rw [h0, hr] at eL
  simp only [Bool.not_true, cond_false, hp'] at eL
  simp only [hr, hp', Int.toNat_natCast, hg, Bool.not_true, cond_false]
  cases h5 : okI r.width x
  · simp -dsimp only [EVm, run_eq, ir30, Mc.d, hL, eL, h0, hO, eO, h5, ha, hb, EVs, ↓EVd, ↓reduceIte, zA, zB, zC, zD, zE, zF, reduceBEq, reduceCtorEq, zG, zH, zI, zJ, zK, dcells, okc]
  have hcl := hcal f rs (nx + 1) ((nx, .box m.d) :: hp) (decide_eq_true (by omega)) t3
  simp only [Mc.d] at hcl
  unfold wrM uor uandn ushl
  have hy2 := uV_get hy
  have hne : (nx = nx + 1) = False := by simp
  simp -dsimp only [EVm, run_eq, ir30, Mc.d, hL, eL, h0, hO, eO, h5, hn, hcl, hK, eK, d1, d2, d3, d4, hy2, Nat.mul_one, uV_set hpl, ha, hb, hne, EVs, ↓EVd, ↓reduceIte, zA, zB, zC, zD, zE, zF, reduceBEq, reduceCtorEq, zG, zH, zI, zJ, zK, dcells, okc]
def x_SameW (a : Bool × Bool × (List Int)) : List D := match a with | (b, c, l) => [.lst b (l.map uD), .lst c (l.map uD)]
theorem i_SameW : ∀ a b, x_SameW a = x_SameW b → a = b := by
  rintro ⟨b, c, l⟩ ⟨b', c', l'⟩ h
  first | simpa [x_SameW, INJ, and_assoc, Int.ofNat_inj] using h | (simp [x_SameW, INJ, and_assoc, Int.ofNat_inj] at h; simp_all)
noncomputable def s_SameW : List D → Option D := sOf x_SameW fun a => match a with | (b, c, l) => some (.v (.bool true))
theorem e_SameW {b : Bool} {c : Bool} {l : List Int} : s_SameW [.lst b (l.map uD), .lst c (l.map uD)] = some (.v (.bool true)) := sOf_eq i_SameW (b, c, l)
theorem R_SameW {C : Ctx} {F : IFun} (hspec : ∀ N, maxLen + 10 < N → ∀ (b : Bool) (c : Bool) (l : List Int), lenOK.lenOKs [.lst b (l.map uD), .lst c (l.map uD)] → runE C N F [.lst b (l.map uD), .lst c (l.map uD)] = some (.v (.bool true))) : Runs C F s_SameW := runs_of i_SameW fun N hN a r hl hf => by
  obtain ⟨b, c, l⟩ := a
  simp only [Option.some.injEq] at hf
  subst hf
  exact hspec N hN b c l hl
theorem r_SameWords (C : Ctx) : Runs C ir32 s_SameW := R_SameW fun N hN b c l hl => by
  have hll : l.length ≤ maxLen := by simp only [EVl, List.length_map] at hl; exact hl.1.1
  simp -dsimp only [runE, run_eq, ir32, EVs, ↓EVd, ↓reduceIte, zA, zB, zC, zD, zE, zF, reduceBEq, reduceCtorEq, zG, zH, zI, zJ, zK, dcells, okc]
  generalize hI : iter _ _ _ _ = I
  revert I
  refine iter_all l (fun j _ => ⟨[(0, .lst b (l.map uD)), (1, .lst c (l.map uD)), (5, .v (.int .i64 j))], [], 0⟩) (fun (_ : Unit) _ => ()) (fun _ _ => True) () hll hN ?_ trivial ?_ ?_
  · simp -dsimp only [EVs, ↓EVd, ↓reduceIte, zA, zB, zC, zD, zE, zF, reduceBEq, reduceCtorEq, zG, zH, zI, zJ, zK, dcells, okc]
  · intro j _ x hj hjw hx _
    refine ⟨?_, trivial⟩
    have hd : decide (x = x) = true := decide_eq_true rfl
    simp -dsimp only [lp32x0, hj, hjw, hx, uD, hd, EVs, ↓EVd, ↓reduceIte, zA, zB, zC, zD, zE, zF, reduceBEq, reduceCtorEq, zG, zH, zI, zJ, zK, dcells, okc]
  · intro _
    simp -dsimp only [lp32x0, EVs, ↓EVd, ↓reduceIte, zA, zB, zC, zD, zE, zF, reduceBEq, reduceCtorEq, zG, zH, zI, zJ, zK, dcells, okc]
theorem vl_eq {m : Mc} (hz : RegZ m) {rs : List Int} (h : (topsL m).length = rs.length) : vlM m rs = vlR m rs := by
  have key : ∀ (xs : List Int) (a : Nat), a + xs.length ≤ (topsL m).length → scOK (scan (tst (fun (a : Nat) x => okI (wAt m a) x) (fun a _ => a + 1) (fun _ _ => ())) a xs) = scOK (scan (tst (fun (a : Nat) x => decide (x < p2 (wAt m a).toNat)) (fun a _ => a + 1) (fun _ _ => ())) a xs) := by
    intro xs
    induction xs with
    | nil => intro a _; rfl
    | cons x xs ih =>
      intro a ha
      simp only [List.length_cons] at ha
      obtain ⟨t, ht⟩ : ∃ t, (topsL m)[a]? = some t := ⟨_, List.getElem?_eq_getElem (by omega)⟩
      have hw := top_width hz ht
      have e := ok_below (x := x) hw.1 hw.2
      simp only [scan, tst, e]
      cases decide (x < p2 (wAt m a).toNat) with
      | true => exact ih (a + 1) (by omega)
      | false => rfl
  exact key rs 0 (by omega)
theorem err_eq {m : Mc} (hz : chkM m = 0 → RegZ m) {rs : List Int} {reg : Int} : errL m (vlM m rs) rs.length reg (chkM m) = errL m (vlR m rs) rs.length reg (chkM m) := by
  unfold errL
  cases h0 : decide (chkM m = 0) with
  | false => rfl
  | true =>
    cases h1 : decide (((topsL m).length : Int) = (rs.length : Int)) with
    | false => rfl
    | true =>
      have : (topsL m).length = rs.length := by have := of_decide_eq_true h1; omega
      rw [vl_eq (hz (by simpa using h0)) this]
def fillL (l : List Int) (i : Nat) : List Int := List.replicate i 7 ++ l.drop i
theorem fill_0 {l : List Int} : fillL l 0 = l := by simp [fillL]
theorem fill_len {l : List Int} {i : Nat} (h : i ≤ l.length) : (fillL l i).length = l.length := by simp [fillL]; omega
theorem fill_set {l : List Int} {i : Nat} (h : i < l.length) : (fillL l i).set i 7 = fillL l (i + 1) := by
  unfold fillL
  rw [List.set_append, if_neg (by simp)]
  rw [List.length_replicate, Nat.sub_self, List.drop_eq_getElem_cons h, List.set_cons_zero, List.replicate_succ']
  simp
theorem write_cases (m : Mc) (rs : List Int) (reg x e : Int) (h : e = 0 → ∃ r, m.regs[reg.toNat]? = some r) : (∃ E : Int, writeD m rs reg x e = .tup [.lst true [], .v (.int .i64 E)] ∧ ∀ hp nx, writeW m rs reg x e hp nx = (.tup [.lst true [], .v (.int .i64 E)], hp, nx)) ∨
    ∃ l : List Int, l.length = rs.length ∧ writeD m rs reg x e = .tup [.lst false (l.map uD), .v (.int .i64 0)] ∧ ∀ hp nx, writeW m rs reg x e hp nx = (.tup [.own (nx + 1) rs.length, .v (.int .i64 0)], (nx + 1, .box (l.map uV)) :: (nx, .box m.d) :: hp, nx + 2) := by
  unfold writeD writeW
  cases h0 : decide (e = 0) with
  | false => exact .inl ⟨_, rfl, fun _ _ => rfl⟩
  | true =>
    obtain ⟨r, hr⟩ := h (by simpa using h0)
    simp only [hr, Bool.not_true, cond_false]
    cases okI r.width x with
    | false => exact .inl ⟨_, rfl, fun _ _ => rfl⟩
    | true => exact .inr ⟨_, List.length_set, rfl, fun _ _ => rfl⟩
theorem read_tup (m : Mc) (rs : List Int) (reg e : Int) (h : e = 0 → ∃ r, m.regs[reg.toNat]? = some r) : ∃ v k : Int, readD m rs reg e = .tup [.v (.int .u64 v), .v (.int .i64 k)] := by
  unfold readD
  cases h0 : decide (e = 0) with
  | false => exact ⟨_, _, rfl⟩
  | true =>
    obtain ⟨r, hr⟩ := h (by simpa using h0)
    simp only [hr, Bool.not_true, cond_false]
    exact ⟨_, _, rfl⟩
def x_LawValues (a : Mc × Bool × (List Int) × Int × Int) : List D := match a with | (m, f, rs, reg, x) => [.agg m.d, .lst f (rs.map uD), .v (.int .i64 reg), .v (.int .u64 x)]
theorem i_LawValues : ∀ a b, x_LawValues a = x_LawValues b → a = b := by
  rintro ⟨m, f, rs, reg, x⟩ ⟨m', f', rs', reg', x'⟩ h
  first | simpa [x_LawValues, INJ, and_assoc, Int.ofNat_inj] using h | (simp [x_LawValues, INJ, and_assoc, Int.ofNat_inj] at h; simp_all)
open Classical in
noncomputable def s_LawValues : List D → Option D := sOf x_LawValues fun a => match a with | (m, f, rs, reg, x) => if (m.tw ∧ (∀ x ∈ rs, 0 ≤ x ∧ x < 18446744073709551616) ∧ 0 ≤ x ∧ x < 18446744073709551616) then some (.v (.bool true)) else none
theorem e_LawValues {m : Mc} {f : Bool} {rs : List Int} {reg : Int} {x : Int} (hc : (m.tw ∧ (∀ x ∈ rs, 0 ≤ x ∧ x < 18446744073709551616) ∧ 0 ≤ x ∧ x < 18446744073709551616)) : s_LawValues [.agg m.d, .lst f (rs.map uD), .v (.int .i64 reg), .v (.int .u64 x)] = some (.v (.bool true)) := (sOf_eq i_LawValues (m, f, rs, reg, x)).trans (if_pos hc)
theorem R_LawValues {C : Ctx} {F : IFun} (hspec : ∀ N, maxLen + 10 < N → ∀ (m : Mc) (f : Bool) (rs : List Int) (reg : Int) (x : Int), lenOK.lenOKs [.agg m.d, .lst f (rs.map uD), .v (.int .i64 reg), .v (.int .u64 x)] → (m.tw ∧ (∀ x ∈ rs, 0 ≤ x ∧ x < 18446744073709551616) ∧ 0 ≤ x ∧ x < 18446744073709551616) → runE C N F [.agg m.d, .lst f (rs.map uD), .v (.int .i64 reg), .v (.int .u64 x)] = some (.v (.bool true))) : Runs C F (s_LawValues) := runs_of i_LawValues fun N hN a r hl hf => by
  obtain ⟨m, f, rs, reg, x⟩ := a
  simp only [Option.ite_none_right_eq_some, Option.some.injEq] at hf
  obtain ⟨hc, rfl⟩ := hf
  exact hspec N hN m f rs reg x hl hc
set_option maxHeartbeats 4000000 in
theorem r_MachineValues (C : Ctx) (hG : C.T 11 = some s_GreatM) (h1 : C.T 28 = some s_ReadF) (h2 : C.T 29 = some s_ReadF8) (h3 : C.T 31 = some s_WriteF8) (h4 : C.T 32 = some s_SameW) (hn : C.T 30 = none)
    (hcal : ∀ (m : Mc) (f : Bool) (rs : List Int) (reg x : Int) (hp : List (Nat × Blk)) (nx : Nat), Hk nx hp → TOKs m → (chkM m = 0 → RegZ m) → rs.length ≤ 1000 →
      C.cal 30 [.agg m.d, .lst f (rs.map uD), .v (.int .i64 reg), .v (.int .u64 x)] hp nx = some (writeW m rs reg x (errL m (vlM m rs) rs.length reg (chkM m)) hp nx)) : Runs C ir5 s_LawValues := R_LawValues fun N hN m f rs reg x hl hc => by
  obtain ⟨htw, hrs, hx⟩ := hc
  have eG := @e_GreatM m
  simp only [Mc.d] at eG
  cases g1 : greatM m
  case true => simp -dsimp only [runE, run_eq, ir5, Mc.d, hG, eG, g1, EVs, ↓EVd, ↓reduceIte, zA, zB, zC, zD, zE, zF, reduceBEq, reduceCtorEq, zG, zH, zI, zJ, zK, dcells, okc]
  cases g2 : decide ((100 : Int) < (rs.length : Int))
  case true => simp -dsimp only [runE, run_eq, ir5, Mc.d, hG, eG, g1, g2, EVs, ↓EVd, ↓reduceIte, zA, zB, zC, zD, zE, zF, reduceBEq, reduceCtorEq, zG, zH, zI, zJ, zK, dcells, okc]
  have hrl : rs.length ≤ 1000 := by have := of_decide_eq_false g2; omega
  have hlm : lenOK.lenOKs m.d := by simp only [EVl] at hl; exact hl.1
  obtain ⟨t1, t2⟩ := great_terms g1 htw hlm
  have hck := chk_eq t1 t2
  have hz : chkM m = 0 → RegZ m := fun h => chk_regz (hck ▸ h)
  have hz8 : chkR m = 0 → RegZ m := chk_regz
  have k1 := @e_ReadF m f rs reg ⟨t2, hz, hrl⟩
  have k2 := @e_ReadF8 m f rs reg ⟨t1, hz8, hrl, hrs⟩
  have k3 := @e_WriteF8 m f rs reg x ⟨t1, hz8, hrl, hrs, hx⟩
  rw [← hck, ← err_eq hz] at k2 k3
  have hreg : errL m (vlM m rs) rs.length reg (chkM m) = 0 → ∃ r, m.regs[reg.toNat]? = some r := fun h => by
    obtain ⟨q1, q2, _, _⟩ := errL_ok (decide_eq_true h)
    exact (inB_get (by have := (hz q1).1; omega) q2).2
  have hk : Hk 2 [(1, .row 1 (rs.map uD)), (0, .box m.d)] := ⟨by simp [hplt, Mc.d, idlt], by simp⟩
  have k4 := hcal m f rs reg x [(1, .row 1 (rs.map uD)), (0, .box m.d)] 2 hk t2 hz hrl
  obtain ⟨v, k, q1⟩ := read_tup m rs reg (errL m (vlM m rs) rs.length reg (chkM m)) hreg
  rw [q1] at k1 k2
  have hd : ∀ x : Int, decide (x = x) = true := fun x => decide_eq_true rfl
  have hml := maxLen_ge
  have b1 : decide (rs.length * 8 ≤ 140737488355328) = true := decide_eq_true (by omega)
  have b2 : decide (rs.length = rs.length) = true := decide_eq_true rfl
  have kr := @e_SameW f false rs
  rcases write_cases m rs reg x (errL m (vlM m rs) rs.length reg (chkM m)) hreg with ⟨E, q2, q3⟩ | ⟨l, hll, q2, q3⟩
  · rw [q2] at k3
    rw [q3] at k4
    have kw := @e_SameW true true []
    simp only [List.map_nil] at kw
    simp only [Mc.d] at k1 k2 k3 k4
    simp -dsimp only [EVm, runE, run_eq, ir5, Mc.d, hG, eG, g1, g2, h1, k1, h2, k2, h3, k3, hn, k4, h4, kw, hd, b1, b2, uD_one, Nat.zero_add, EVs, ↓EVd, ↓reduceIte, zA, zB, zC, zD, zE, zF, reduceBEq, reduceCtorEq, zG, zH, zI, zJ, zK, dcells, okc]
    generalize hI : iter _ _ _ _ = I
    revert I
    refine iter_all ([] : List Int) (fun j _ => ⟨[(1, .lst f (rs.map uD)), (9, .own 1 rs.length), (14, .lst true []), (18, .v (.bool true)), (19, .v (.int .i64 j))], [(1, .row 1 (rs.map uD)), (0, .box m.d)], 2⟩) (fun (_ : Unit) _ => ()) (fun _ _ => True) () (by simp) hN ?_ trivial ?_ ?_
    · simp -dsimp only [Mc.d, EVs, ↓EVd, ↓reduceIte, zA, zB, zC, zD, zE, zF, reduceBEq, reduceCtorEq, zG, zH, zI, zJ, zK, dcells, okc]
    · intro j _ x hj hjw hx _
      simp at hx
    · intro _
      simp -dsimp only [EVm, lp5x0, Mc.d, hd, b2, h4, kr, EVs, ↓EVd, ↓reduceIte, zA, zB, zC, zD, zE, zF, reduceBEq, reduceCtorEq, zG, zH, zI, zJ, zK, dcells, okc]
  · rw [q2] at k3
    rw [q3] at k4
    have kw := @e_SameW false false l
    have b3 : decide (l.length = rs.length) = true := decide_eq_true hll
    simp only [Mc.d] at k1 k2 k3 k4
    simp -dsimp only [EVm, runE, run_eq, ir5, Mc.d, hG, eG, g1, g2, h1, k1, h2, k2, h3, k3, hn, k4, h4, kw, hd, b1, b2, b3, uD_one, uV_cls, uV_sing, Nat.zero_add, EVs, ↓EVd, ↓reduceIte, zA, zB, zC, zD, zE, zF, reduceBEq, reduceCtorEq, zG, zH, zI, zJ, zK, dcells, okc]
    generalize hI : iter _ _ _ _ = I
    revert I
    refine iter_all rs (fun j _ => ⟨[(1, .lst f (rs.map uD)), (9, .own 1 rs.length), (14, .own 3 rs.length), (18, .v (.bool true)), (19, .v (.int .i64 j))], [(3, .box ((fillL l j).map uV)), (2, .box m.d), (1, .row 1 (rs.map uD)), (0, .box m.d)], 4⟩) (fun (_ : Unit) _ => ()) (fun _ _ => True) () (by omega) hN ?_ trivial ?_ ?_
    · rw [fill_0]
      simp -dsimp only [Mc.d, uV_idlt, EVs, ↓EVd, ↓reduceIte, zA, zB, zC, zD, zE, zF, reduceBEq, reduceCtorEq, zG, zH, zI, zJ, zK, dcells, okc]
    · intro j _ x hj hjw hx _
      refine ⟨?_, trivial⟩
      have hjl : j < rs.length := (List.getElem?_eq_some_iff.1 hx).1
      have hfl := fill_len (l := l) (i := j) (by omega)
      have hs := uV_set (l := fillL l j) (p := j) (v := 7) (by omega)
      rw [fill_set (by omega)] at hs
      have d2 : decide (0 ≤ (j : Int)) = true := decide_eq_true (by omega)
      have d4 : j + 1 ≤ (fillL l j).length := by omega
      simp -dsimp only [EVm, lp5x0, hj, hjw, Mc.d, d2, d4, hs, Nat.mul_one, uV_idlt, EVs, ↓EVd, ↓reduceIte, zA, zB, zC, zD, zE, zF, reduceBEq, reduceCtorEq, zG, zH, zI, zJ, zK, dcells, okc]
    · intro _
      simp -dsimp only [EVm, lp5x0, Mc.d, hd, b2, h4, kr, EVs, ↓EVd, ↓reduceIte, zA, zB, zC, zD, zE, zF, reduceBEq, reduceCtorEq, zG, zH, zI, zJ, zK, dcells, okc]
end Go.Proofs.Dv
